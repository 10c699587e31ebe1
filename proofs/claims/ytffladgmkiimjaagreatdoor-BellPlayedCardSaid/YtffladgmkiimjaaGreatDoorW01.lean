/- A DRAWN REGION, EACH OPERATION BY ITSELF, WITH PHASES: what is known o .. -/
import Derived.Test.YtffladgmkiimjaaGreatDoorW00
import Derived.ProofKit
import Derived.Deep.Slices
import Derived.RangeFuncNested
import Derived.RangeFuncBound
import Derived.RangeFuncCalls
import Derived.RangeFuncLeaves
import Derived.Shelf.RegionOpen
import Derived.OwnWalkIn
import Derived.TacticsInMore
import Derived.LoopNIn
import Derived.LoopIn
import Derived.Maps.OwnIn
import Derived.Maps.AppendAt
set_option linter.all false
set_option maxHeartbeats 100000000
set_option maxRecDepth 1000000
open Array renaming getElem_modify -> BK,getElem?_eq_getElem -> aQ,getD_eq_getD_getElem? -> aY,getElem?_eq_some_iff -> ai,replicate -> bE,getElem?_setIfInBounds -> bF,getD -> eD,getElem?_eq_none -> fH,replicate_zero -> j7,replicate_succ -> j8,getElem?_replicate -> qY,getElem_toList -> rp,toList_map -> vY
open Bool renaming and_eq_true -> aI
open Go renaming Program -> aL,TypeId -> aZ,undef -> af,Value -> ak,World -> ar,Operand -> bL,Calls -> bu,execOp -> cG,Oper -> cR,Code -> gR,Tmp -> kG,Act -> kH,bytes -> sB
open Go.Builtin renaming zeroCells -> fS
open Go.Ending renaming returned -> aF
open Go.IntKind renaming i64 -> ag
open Go.Lib renaming hid -> aj
open Go.Obj renaming cells -> aw
open Go.Proofs.Tryz renaming prog -> aq,underlying28 -> cJ,underlying3 -> eL
open Go.Region renaming wanted -> cS,binds -> fG,ready -> je
open Go.RowKit renaming Below -> az
open Go.RowKit.Below renaming heap_alloc -> aX,refl -> au,heap_setCell -> bt
open Go.Value renaming int -> aB,bool -> aH,agg -> aR,pointer -> aS,slice -> ae,int -> ah,ownBlock -> jq
open Go.World renaming alloc_heap_new -> ay,putObj_heap_other -> dG,cell? -> dJ,size_alloc -> ej,cell?_alloc_lt -> ey,setCell -> km
open List renaming map_congr_left -> FX,all_eq_true -> a7,range -> aU,mem_append -> bI,mem_range -> bP,mem_cons_of_mem -> bW,eq_nil_of_length_eq_zero -> bf,mem_cons -> cy,mem_map -> dN,all_cons -> dT,take_of_length_le -> dp,mem_cons_self -> dz,mem_of_mem_take -> eQ,mem_filter -> fQ,cons_append -> gP,length_cons -> iC,append_toArray -> iw,size_toArray -> jG,push_toArray -> jH,getElem_of_mem -> jy,nil_append -> kn,getElem?_eq_some_iff -> oY,length_nil -> oy,any_eq_true -> qb
open List.cons renaming injEq -> Ax
open Nat renaming reduceSub -> Dj,reduceAdd -> Dk,beq -> FW,le_trans -> aO,le_refl -> ax,lt_of_lt_of_le -> bA,zero_add -> di,eq_of_beq_eq_true -> il
open Ne renaming symm -> BF
open Option renaming bind_some -> gK
open Option.some renaming inj -> bj
open Or renaming inl -> cK
open Prod.mk renaming injEq -> iO
namespace Go.Lag
namespace Ph
open Go Go.RowKit
abbrev Ls:=Nat->Bool
def upd(L:Ls)(i:Nat):Ls:=fun t=>if t=i then true else L t
def needs(aN:Array cR)(i t:Nat):Bool:=(fV aN t).any fun e=>fG .any e&&decide (e.on=i)
def yG(L:Ls)(ev:bL->ak):List (Nat × kG × ak)->Prop
 |[]=>True
 |(i,t,v)::l=>(L i=false->ev (.tmp t)=v)/\yG L ev l
def J1(aN:Array cR)(ev:bL->ak):List (Nat × kG × ak)->Prop
 |[]=>True
 |(i,t,v)::l=>(eb aN i=some t/\ev (.tmp t)=v)/\J1 aN ev l
def Ik(L:Ls)(ev:bL->ak)(late:List (Nat × kG × ak)):List (kG × ak)->Prop
 |[]=>yG L ev late
 |(t,v)::l=>ev (.tmp t)=v/\Ik L ev late l
theorem Ik.of{L:Ls}{ev:bL->ak}{late:List (Nat × kG × ak)}(h2:yG L ev late):∀ {base:List (kG × ak)},fZ ev base->Ik L ev late base
 |[],_=>h2
 |(_,_)::_,h=>⟨h.1,Ik.of h2 h.2⟩
theorem yG.of{aN:Array cR}{L:Ls}{ev E3:bL->ak}(hk:∀i d,eb aN i=some d->L i=false->E3 (.tmp d)=ev (.tmp d)):∀ {late:List (Nat × kG × ak)},J1 aN ev late->yG L E3 late
 |[],_=>trivial
 |(_,_,_)::_,h=>⟨fun e=>(hk _ _ h.1.1 e).trans h.1.2,yG.of hk h.2⟩
def Post(L:Ls)(aN:Array cR)(ev:bL->ak)(Vs:List Pred)(S:Ls->ar->Prop)(i:Nat)(o:cR)(w:ar)(v:ak)(w':ar):Prop:=
 gq Vs i (match o.dst with|some _=>v|none=>af) (gu aN ev o.after.toList) w'/\(az w.heap.size w w'\/(S (upd L i) w'/\∀k u ds,k≠i->L k=true->gq Vs k u ds w->gq Vs k u ds w'))
theorem yv{P:aL}{L:Ls}{aN:Array cR}{Vs:List Pred}{S:Ls->ar->Prop}{o:cR}{ev:bL->ak}{w:ar}{i:Nat}{v:ak}(he:(cG ev o).run P w=.ok (.value v) w)(hp:gq Vs i (match o.dst with|some _=>v|none=>af) (gu aN ev o.after.toList) w):Yields P o ev w (Post L aN ev Vs S i o w):=.value he ⟨hp,.inl (au _ _)⟩
theorem sV{S:Ls->ar->Prop}{x:ak}:∀(u:ak) (ds:List ak) (L:Ls) (w w':ar),S L w->pV x u ds w->az w.heap.size w w'->pV x u ds w':=fun _ _ _ _ _ _ h _=>h
theorem sC{S:Ls->ar->Prop}{c:Bool}{x:ak}:∀(u:ak) (ds:List ak) (L:Ls) (w w':ar),S L w->pC c x u ds w->az w.heap.size w w'->pC c x u ds w':=fun _ _ _ _ _ _ h _=>h
def Qg(Y:mE)(aN:Array cR)(Vs:List Pred)(S:Ls->ar->Prop)(base:List (kG × ak))(late:List (Nat × kG × ak))(i:Nat)(o:cR):Prop:=
 ∀(L:Ls) (ev:bL->ak) (w:ar),(∀t,needs aN i t=true->L t=false)->L i=false->S L w->(∀v,ev (.const v)=v)->(∀g,ev (.global g)=.pointer (some ⟨g,0,none⟩))->(∀f,ev (.func f)=.func (.func f) #[] #[])->Ik L ev late base->FI aN Vs ev w o.after.toList->
  match o.guard with
  |none=>Y o ev w (Post L aN ev Vs S i o w)
  |some (j,b)=>(∃r,jg (eb aN j) ev=.bool r)/\∀r,jg (eb aN j) ev=.bool r->if r=b then Y o ev w (Post L aN ev Vs S i o w) else Post L aN ev Vs S i o w af w
def Each(Y:mE)(aN:Array cR)(Vs:List Pred)(S:Ls->ar->Prop)(base:List (kG × ak))(late:List (Nat × kG × ak)):Nat->List cR->Prop
 |_,[]=>True
 |i,o::l=>Qg Y aN Vs S base late i o/\Each Y aN Vs S base late (i+1) l
def jv(S:Ls->ar->Prop):List Pred->Prop
 |[]=>True
 |V::l=>(∀u ds L w w',S L w->V u ds w->az w.heap.size w w'->V u ds w')/\jv S l
section
variable{P:aL}{aN:Array cR}{Q:Exit->kH->ar->Prop}{Vs:List Pred}{S:Ls->ar->Prop}{base:List (kG × ak)}{late:List (Nat × kG × ak)}{n:Nat}
theorem Each.get{Y:mE}{i:Nat}{l:List cR}(h:Each Y aN Vs S base late i l){j:Nat}{o:cR}(hj:l[j]?=some o):Qg Y aN Vs S base late (i+j) o:=by
 induction l generalizing i j with
 |nil=>simp at hj
 |cons x l ih=>
  cases j with
  |zero=>simp at hj;subst hj;exact h.1
  |succ j=>have:=ih h.2 (j:=j) (by simpa using hj);rwa [Nat.add_assoc,Nat.add_comm 1 j] at this
theorem jv.get(h:jv S Vs)(i:Nat){L:Ls}{u:ak}{ds:List ak}{w w':ar}(hS:S L w)(hb:az w.heap.size w w')(hv:gq Vs i u ds w):gq Vs i u ds w':=by
 induction Vs generalizing i with
 |nil=>trivial
 |cons V l ih=>
  cases i with
  |zero=>exact h.1 u ds L w w' hS hv hb
  |succ i=>exact ih h.2 i hv
structure jm(aN:Array cR)(Vs:List Pred)(S:Ls->ar->Prop)(a0:kH)(L:Array Bool)(a:kH)(w:ar):Prop where
 uD:L.size=aN.size
 size:a.tmps.size=a0.tmps.size
 defers:a.defers=a0.defers
 s:S (fun t=>L.getD t false) w
 keep:∀t,(∀o∈aN.toList,o.dst≠some t)->a.eval (.tmp t)=a0.eval (.tmp t)
 late:∀i d,eb aN i=some d->L.getD i false=false->a.eval (.tmp d)=a0.eval (.tmp d)
 closed:∀i e,L.getD i false=true->e∈fV aN i->fG .any e=true->L.getD e.on false=true
 vals:∀i,L.getD i false=true->gq Vs i (jg (eb aN i) a.eval) (gu aN a.eval (fV aN i)) w
theorem Am{Y:mE}{step:Nat->(kH->ar->Prop)->kH->ar->Prop}
  (hs1:∀i o K a w R,aN[i]?=some o->cS o (yielded aN a.tmps)=true->Y o a.eval w R->(∀v w',R v w'->K (a.put o.dst v) w')->step i K a w)
  (hs2:∀i o K a w,aN[i]?=some o->¬cS o (yielded aN a.tmps)=true->K (a.put o.dst af) w->step i K a w)
  (cY:ji aN n base=true) (C9:jv S Vs) (Ka:∀(L L':Ls) w w',(∀t,L' t=false->L t=false)->S L w->az w.heap.size w w'->S L' w') (a0:kH) (hn:a0.tmps.size=n) (hbase:fZ a0.eval base) (hlate:J1 aN a0.eval late) (hE:Each Y aN Vs S base late 0 aN.toList)
  (hQ:∀a w,jm aN Vs S a0 (bE aN.size true) a w->Q .normal a w) :
  ∀fuel (L:Array Bool) (a:kH) (w:ar),L.toList.countP (!·)<=fuel->jm aN Vs S a0 L a w->anyOf step aN Q fuel L a w:=by
 have ahY:∀(L:Array Bool) (a:kH) (w:ar),je .any aN L=[]->jm aN Vs S a0 L a w->S (fun t=>(bE aN.size true).getD t false) w:=fun L a w hr h=>
  Ka _ _ w w (fun t ht=>by
   by_cases hlt:t<aN.size
   .simp[eD,hlt] at ht
   have:¬t<L.size:=by have:=h.uD;omega
   simp[eD,this]) h.s (au _ _)
 have fin:∀(L:Array Bool) (a:kH) (w:ar),je .any aN L=[]->jm aN Vs S a0 L a w->Q .normal a w:=fun L a w hr h=>
  hQ a w ⟨by simp,h.size,h.defers,ahY L a w hr h,h.keep,fun i d hd hi=>by
   by_cases hlt:i<aN.size
   .simp[eD,hlt] at hi
   .unfold eb at hd;rw[fH (by omega)] at hd;simp at hd,fun i e hi he hb=>by
   have hlt:e.on<aN.size:=MH cY he hb;simp[eD,hlt],fun i hi=>by
   by_cases hlt:i<aN.size
   .exact h.vals i (ready_nil cY h.uD hr i hlt)
   simp[eD,hlt] at hi⟩
 intro fuel
 induction fuel with
 |zero=>
  intro L a w hc h
  have hr:je .any aN L=[]:=by
   apply List.eq_nil_iff_forall_not_mem.2;intro i hi;unfold je at hi;rw[fQ,bP] at hi;obtain⟨hi,h2⟩:=hi;have vK:i<L.size:=by have:=h.uD;omega
   simp[eD,vK] at h2;have h0:=List.countP_eq_zero.1 (Nat.le_zero.1 hc) L[i] (by simp);simp[h2.1] at h0
  exact⟨hr,fin L a w hr h⟩
 |succ fuel ih=>
  intro L a w hc h;refine⟨fun hr=>fin L a w hr h,fun i hi=>?_⟩;have hi':=hi;unfold je at hi';rw[fQ,bP] at hi';obtain⟨hlt,h2⟩:=hi';have vK:i<L.size:=by have:=h.uD;omega
  have wP:aN[i]?=some aN[i]:=aQ hlt;generalize aN[i]=o at wP;rw[wP] at h2;simp only[aI,Bool.not_eq_true',Option.map_some,Option.getD_some,Array.all_eq_true] at h2;obtain⟨UB,Un⟩:=h2
  have Lv:o∈aN.toList:=by
   have:=Array.mem_of_getElem? wP;simpa using this
  have rZ:=cY;unfold ji at rZ;rw[aI,a7,a7] at rZ;have C6:=rZ.1 i (bP.2 hlt);rw[wP] at C6;simp only[aI] at C6;obtain⟨⟨aaK,uR⟩,aao⟩:=C6
  have UE:FI aN Vs a.eval w o.after.toList:=FI.of fun e he hb=>by
   obtain⟨k,hk,rfl⟩:=jy he;have:=Un k (by simpa using hk);simp only[rp] at hb ⊢;rw[hb] at this;simp only[Bool.not_true,Bool.false_or] at this;exact h.vals _ this
  have hBs:fZ a.eval base:=hbase.congr fun p hp=>h.keep _ fun o' ho' hd=>by
   obtain⟨k,hk,rfl⟩:=jy ho';have qZ:k<aN.size:=by simpa using hk
   have h3:=rZ.1 k (bP.2 qZ);rw[aQ qZ] at h3;simp only[rp] at hd;simp only[aI,hd] at h3;have:=a7.1 h3.1.2.1.2 p hp;simp at this
  have aeq:(fun t=>L.getD t false) i=false:=by
   simp[eD,vK] at UB ⊢;exact UB
  have adJ:∀t,needs aN i t=true->L.getD t false=false:=fun t ht=>by
   cases hq:L.getD t false with
   |false=>rfl
   |true=>
    unfold needs at ht;obtain⟨e,he,h8⟩:=qb.1 ht;rw[aI,decide_eq_true_eq] at h8;have h9:=h.closed t e hq he h8.1;rw[h8.2] at h9;have h10:L.getD i false=false:=aeq;rw[h10] at h9;cases h9
  have hO:=hE.get (j:=i) (o:=o) (by simpa using wP) (fun t=>L.getD t false) a.eval w (by rw[di];exact adJ) (by rw[di];exact aeq) h.s (fun _=>rfl) (fun _=>rfl) (fun _=>rfl) (Ik.of (yG.of (fun k d hd hk=>h.late k d hd hk) hlate) hBs) UE;rw[di] at hO;have hao:fV aN i=o.after.toList:=by unfold fV;rw[wP]
  have LA:∀e∈o.after.toList,fG .any e=true->L.getD e.on false=true:=fun e he hb=>by
   obtain⟨k,hk,rfl⟩:=jy he;have:=Un k (by simpa using hk);simp only[rp] at hb ⊢;rw[hb] at this;simpa using this
  have hne:∀k,L.getD k false=true->k≠i/\k<aN.size:=fun k hk=>by
   refine⟨fun e=>?_,?_⟩
   .subst e;simp[eD,vK] at UB hk;rw[UB] at hk;cases hk
   rcases Nat.lt_or_ge k aN.size with h5|h5
   .exact h5
   have:¬k<L.size:=by have:=h.uD;omega
   simp[eD,this] at hk
  have next:∀v w',Post (fun t=>L.getD t false) aN a.eval Vs S i o w v w'->anyOf step aN Q fuel (L.setIfInBounds i true) (a.put o.dst v) w':=fun v w' hp=>by
   have hval:∀k,L.getD k false=true->jg (eb aN k) (a.put o.dst v).eval=jg (eb aN k) a.eval:=fun k qZ=>by
    obtain⟨Ar,zG⟩:=hne k qZ;cases MX:eb aN k with
    |none=>rfl
    |some d=>
     refine tW _ _ _ _ fun YK=>?_;rcases Nat.lt_trichotomy k i with h5|h5|h5
     .rw[YK] at uR;simp only[aI,decide_eq_true_eq] at uR;have:=a7.1 uR.2 k (bP.2 h5);simp[MX] at this
     .exact Ar h5
     have h6:=rZ.1 k (bP.2 zG);rw[aQ zG] at h6
     have h7:(aN[k]).dst=some d:=by
      unfold eb at MX;rw[aQ zG] at MX;simpa using MX
     simp only[aI,h7] at h6;have:=a7.1 h6.1.2.2 i (bP.2 h5);unfold eb at this;rw[wP] at this;simp[YK] at this
   have uP:∀k,L.getD k false=true->(L.setIfInBounds i true).getD k false=true:=fun k hk=>by
    have:=(hne k hk).1;simpa [aY,bF,BF this] using hk
   have hback:∀k,k≠i->(L.setIfInBounds i true).getD k false=true->L.getD k false=true:=fun k Ar hk=>by
    simpa [aY,bF,BF Ar] using hk
   refine ih _ _ _ ?_ ⟨by simp[h.uD],by rw[zf,h.size],by rw[put_defers,h.defers],?_,fun t ht=>?_,fun k d hd hk=>?_,fun k e hk he hb=>?_,fun k hk=>?_⟩
   .have hLv:L[i]=false:=by simpa [eD,vK] using UB
    have h4:(L.setIfInBounds i true).toList.countP (!·)=L.toList.countP (!·)-1:=by
     rw[Array.toList_setIfInBounds,List.countP_set (by simpa using vK)];simp[hLv]
    omega
   .have hup:(fun t=>(L.setIfInBounds i true).getD t false)=upd (fun t=>L.getD t false) i:=by
     funext t
     unfold upd
     by_cases ht:t=i
     .subst ht;simp[aY,bF,vK]
     simp[aY,bF,BF ht,ht]
    rw[hup]
    exact hp.2.elim (fun hb=>Ka _ _ _ _ (fun t ht=>by
     unfold upd at ht;split at ht
     .cases ht
     exact ht) h.s hb) fun hs=>hs.1
   .rw[tW _ _ _ _ (ht o Lv)];exact h.keep t ht
   .have Ar:k≠i:=by
     rintro rfl;simp[aY,bF,vK] at hk
    have hkL:L.getD k false=false:=by
     simpa [aY,bF,BF Ar] using hk
    have zG:k<aN.size:=by
     rcases Nat.lt_or_ge k aN.size with h5|h5
     .exact h5
     unfold eb at hd;rw[fH h5] at hd;simp at hd
    rw[tW _ _ _ _ fun YK=>?_]
    .exact h.late k d hd hkL
    rcases Nat.lt_trichotomy k i with h5|h5|h5
    .rw[YK] at uR;simp only[aI,decide_eq_true_eq] at uR;have:=a7.1 uR.2 k (bP.2 h5);simp[hd] at this
    .exact Ar h5
    have h6:=rZ.1 k (bP.2 zG);rw[aQ zG] at h6
    have h7:(aN[k]).dst=some d:=by
     unfold eb at hd;rw[aQ zG] at hd;simpa using hd
    simp only[aI,h7] at h6;have:=a7.1 h6.1.2.2 i (bP.2 h5);unfold eb at this;rw[wP] at this;simp[YK] at this
   .by_cases Ar:k=i
    .subst Ar;rw[hao] at he;exact uP _ (LA e he hb)
    exact uP _ (h.closed k e (hback k Ar hk) he hb)
   by_cases Ar:k=i
   .subst Ar
    have hdd:gu aN (a.put o.dst v).eval (fV aN k)=gu aN a.eval o.after.toList:=by
     rw[hao];exact pY fun e he hb=>hval _ (LA e he hb)
    rw[hdd];have:=hp.1;unfold eb jg;rw[wP];simp only[gK];cases hd:o.dst with
    |none=>rw[hd] at this;exact this
    |some d=>
     rw[hd] at this uR;simp only[aI,decide_eq_true_eq] at uR;have h9:=put_eq a d v (by rw[h.size,hn];exact uR.1.1);simp only[] at this ⊢;rw[h9];exact this
   have qZ:=hback k Ar hk;have ZX:=h.vals k qZ;have hdd:gu aN (a.put o.dst v).eval (fV aN k)=gu aN a.eval (fV aN k):=pY fun e he hb=>hval _ (h.closed k e qZ he hb);rw[hval k qZ,hdd];exact hp.2.elim (fun hb=>C9.get k h.s hb ZX) fun hs=>hs.2 k _ _ Ar qZ ZX
  cases hg:o.guard with
  |none=>
   rw[hg] at hO;exact hs1 i o _ a w _ wP (by simp[cS,hg]) hO next
  |some jb=>
   obtain⟨j,b⟩:=jb;rw[hg] at hO;obtain⟨⟨r,hr⟩,hO⟩:=hO;have hO:=hO r hr
   have hy:yielded aN a.tmps j=some r:=by
    unfold yielded;unfold jg at hr;unfold eb at hr;cases hd:(aN[j]?).bind (·.dst) with
    |none=>rw[hd] at hr;simp[af] at hr
    |some d=>
     rw[hd] at hr;simp only[gK]
     have h8:a.tmps[d]?=some (.bool r):=by
      unfold Act.eval at hr;simp only[] at hr
      by_cases C7:d<a.tmps.size
      .simp[eD,C7] at hr;rw[aQ C7,hr]
      simp[eD,C7,af] at hr
     rw[h8]
   by_cases hrb:r=b
   .rw[if_pos hrb] at hO;exact hs1 i o _ a w _ wP (by simp[cS,hg,hy,hrb]) hO next
   rw[if_neg hrb] at hO;exact hs2 i o _ a w wP (by simp[cS,hg,hy,hrb]) (next _ _ hO)
theorem xM{a0:kH}{w:ar}(hS:S (fun t=>(bE aN.size false).getD t false) w):jm aN Vs S a0 (bE aN.size false) a0 w:=⟨by simp,rfl,rfl,hS,fun _ _=>rfl,fun _ _ _ _=>rfl,fun i e hi _ _=>by
  simp[aY,qY] at hi;split at hi<;>simp at hi,fun i hi=>by
  simp[aY,qY] at hi
  split at hi<;>simp at hi⟩
theorem vN:(bE aN.size false).toList.countP (!·)<=aN.size:=by simpa using List.countP_le_length (p:=(!·)) (l:=List.replicate aN.size false)
theorem vq{id:Nat}{a0:kH}{w:ar}(hm:P.follows .mixedOrders=true)(Vs:List Pred)(S:Ls->ar->Prop)(base:List (kG × ak))(cY:ji aN a0.tmps.size base=true)(C9:jv S Vs)(Ka:∀(L L':Ls) w w',(∀t,L' t=false->L t=false)->S L w->az w.heap.size w w'->S L' w')
  (hS:S (fun _=>false) w.drew) (hbase:fZ a0.eval base) (hlate:J1 aN a0.eval late) (hE:Each (Yields P) aN Vs S base late 0 aN.toList) (hQ:∀a w,jm aN Vs S a0 (bE aN.size true) a w->Q .normal a w):(Code.region id aN true).wp P Q a0 w:=
 wp_region_any hm (by
  rw[DJ]
  exact Am (Y:=Yields P) (fun i o K a w R ho hw hy hk=>wpOp_step ho fun K' hK=>by rw[if_pos hw];exact hy.wp fun v w' hv=>hK _ _ (hk v w' hv))
   (fun i o K a w ho hw hk=>wpOp_step ho fun K' hK=>by rw[if_neg hw];exact hK _ _ hk) cY C9 Ka a0 rfl hbase hlate hE hQ aN.size _ a0 _ vN (xM (by
   have e:(fun t=>(bE aN.size false).getD t false)=fun _=>false:=by
    funext t
    simp[aY,qY];split<;>simp
   rw[e];exact hS)))
theorem bY{id:Nat}{a0:kH}{w:ar}(hm:P.follows .mixedOrders=true)(Vs:List Pred)(S:Ls->ar->Prop)(base:List (kG × ak))(cY:ji aN a0.tmps.size base=true)(C9:jv S Vs)(Ka:∀(L L':Ls) w w',(∀t,L' t=false->L t=false)->S L w->az w.heap.size w w'->S L' w')
  (hS:S (fun _=>false) w.drew) (hbase:fZ a0.eval base) (hE:Each (Yields P) aN Vs S base [] 0 aN.toList) (hQ:∀a w,jm aN Vs S a0 (bE aN.size true) a w->Q .normal a w):(Code.region id aN true).wp P Q a0 w:=
 vq (late:=[]) hm Vs S base cY C9 Ka hS hbase trivial hE hQ
theorem jm.kept{a0 a:kH}{L:Array Bool}{w:ar}(h:jm aN Vs S a0 L a w){t:kG}(hk:keeps aN t=true):a.tmps.getD t af=a0.tmps.getD t undef:=
 h.keep t fun o ho=>by
  have:=a7.1 hk o ho;simpa using this
theorem jm.kp{a0 a:kH}{L:Array Bool}{w:ar}(h:jm aN Vs S a0 L a w)(t:kG)(hk:keeps aN t=true):a.tmps.getD t af=a0.tmps.getD t undef:=h.kept hk
theorem jm.val{a0 a:kH}{w:ar}(h:jm aN Vs S a0 (bE aN.size true) a w)(i:Nat)(hi:i<aN.size):gq Vs i (jg (eb aN i) a.eval) (gu aN a.eval (fV aN i)) w:=h.vals i (by simp[eD,hi])
theorem jm.act{a0 a:kH}{L:Array Bool}{w:ar}(h:jm aN Vs S a0 L a w):a=⟨((aU a0.tmps.size).map fun t=>a.tmps.getD t af).toArray,a0.defers⟩:=by
 have h1:=h.size;have h2:=h.defers;obtain⟨tm,df⟩:=a;simp only[] at h1 h2;subst h2;rw[<-h1]
 congr 1
 apply Array.ext
 .simp
 intro i h1 h2;simp[eD,h1]
theorem jm.lits{a0 a:kH}{L:Array Bool}{w:ar}(h:jm aN Vs S a0 L a w)(n:Nat)(hn:a0.tmps.size=n):a=⟨((aU n).map fun t=>a.tmps.getD t af).toArray,a0.defers⟩:=hn▸h.act
end
end Ph
def M4(c:Bool)(v:ak):Value:=if c then v else af
theorem yD{x:Bool}:((.bool x:ak)=.bool true)↔x=true:=by simp
theorem mf{x:Bool}:((.bool x:ak)=.bool false)↔(!x)=true:=by cases x<;>simp
end Go.Lag
namespace Go.RowKit
theorem Below.tr{w W W':ar}(h:az w.heap.size w W)(ho:az W.heap.size W W'):az w.heap.size w W':=h.trans (ho.mono h.size)
end Go.RowKit
namespace Go.Lag
open Go Go.RowKit
theorem aG{W W':ar}{B:Nat}{o:Obj}(h:W.heap[B]?=some o)(ho:az W.heap.size W W'):W'.heap[B]?=some o:=(ho.block _ (ai.1 h).1).trans h
section
variable{P:aL}{aN:Array cR}{Q:Exit->kH->ar->Prop}{n:Nat}
theorem nI{id:Nat}{y:gR}{a0:kH}{W:ar}(Vs:List Pred)(base:List (kG × ak))(cY:ji aN n base=true)(hn:a0.tmps.size=n)(hbase:fZ a0.eval base)(C9:jv (fun w=>az W.heap.size W w) Vs)
  (hE:Gd.Each (Yields P) aN Vs (fun w=>az W.heap.size W w) base 0 aN.toList) (hy:∀a w,jm aN Vs (fun w=>az W.heap.size W w) a0 (bE aN.size true) a w->y.wp P Q a w):(Code.seq (.region id aN false) y).wp P Q a0 W:=
 wp_seq (Gd.Ip Vs (fun w=>az W.heap.size W w) base cY hn C9 (fun _ _ h hb=>h.trans (hb.mono h.size)) (au _ _) hbase hE fun a w h=>hy a w h)
theorem Md(hm:P.follows .mixedOrders=true){id:Nat}{y:gR}{a0:kH}{W:ar}(Vs:List Pred)(base:List (kG × ak))(cY:ji aN n base=true)(hn:a0.tmps.size=n)(hbase:fZ a0.eval base)(C9:jv (fun w=>az W.heap.size W w) Vs)
  (hE:Gd.Each (Yields P) aN Vs (fun w=>az W.heap.size W w) base 0 aN.toList) (hy:∀a w,jm aN Vs (fun w=>az W.heap.size W w) a0 (bE aN.size true) a w->y.wp P Q a w):(Code.seq (.region id aN true) y).wp P Q a0 W:=
 wp_seq (Gd.bY hm Vs (fun w=>az W.heap.size W w) base (by rw[hn];exact cY) C9 (fun _ _ h hb=>h.trans (hb.mono h.size)) (au _ _).drew hbase hE fun a w h=>hy a w h)
theorem aeY(hm:P.follows .mixedOrders=true){id:Nat}{a0:kH}{W:ar}(Vs:List Pred)(base:List (kG × ak))(cY:ji aN n base=true)(hn:a0.tmps.size=n)(hbase:fZ a0.eval base)(C9:jv (fun w=>az W.heap.size W w) Vs)
  (hE:Gd.Each (Yields P) aN Vs (fun w=>az W.heap.size W w) base 0 aN.toList) (hy:∀a w,jm aN Vs (fun w=>az W.heap.size W w) a0 (bE aN.size true) a w->Q .normal a w):(Code.region id aN true).wp P Q a0 W:=
 Gd.bY hm Vs (fun w=>az W.heap.size W w) base (by rw[hn];exact cY) C9 (fun _ _ h hb=>h.trans (hb.mono h.size)) (au _ _).drew hbase hE fun a w h=>hy a w h
theorem Ph.jm.fr{Vs:List Pred}{S:Ph.Ls->ar->Prop}{a0 a:kH}{L:Array Bool}{w:ar}{n:Nat}{l:List (kG × ak)}(h:Ph.jm aN Vs S a0 L a w)(h0:ij n a0 l)(hk:(l.all fun p=>keeps aN p.1)=true):ij n a l:=
 ⟨h.size.trans h0.size,h.defers.trans h0.defers,h0.base.congr fun p hp=>h.keep p.1 fun o ho=>by
  have h1:=a7.1 hk p hp;have:=a7.1 h1 o ho
  simpa using this⟩
theorem kF{args:Array ak}{k t:Nat}{v:ak}(h:args[t]?=some v):(⟨args++bE k af,[]⟩:kH).eval (.tmp t)=v:=by
 have hl:=(ai.1 h).1;unfold Act.eval;simp only[aY];rw[Array.getElem?_append_left hl,h];rfl
theorem JD{args:Array ak}{n:Nat}(hn:args.size<=n)(l:List (kG × ak))(h:fZ (⟨args++bE (n-args.size) af,[]⟩:kH).eval l):ij n ⟨args++bE (n-args.size) af,[]⟩ l:=⟨by simp;omega,rfl,h⟩
theorem qK{P:aL}{fn:Func}{c:gR}{f:FuncId}{args:Array ak}{w:ar}{R:Ending->ar->Prop}(hf:P.funcs[f]?=some fn)(hb:fn.body=some c){n:Nat}(hn:fn.ntmps=n)(l:List (kG × ak))(hl:fZ (⟨args++bE (n-args.size) af,[]⟩:kH).eval l)(h:∀a W,ij n a l->az w.heap.size w W->c.wp P (bodyPost P fn R) a W)(hs:args.size<=n:=by simp):bu P f args w R:=
 calls_of_wp hf hb (by rw[hn];exact h _ w (JD hs l hl) (au _ _))
theorem kP{P:aL}{fn:Func}{c:gR}{f:FuncId}{args:Array ak}{w:ar}{R:Ending->ar->Prop}(hf:P.funcs[f]?=some fn)(hb:fn.body=some c){n:Nat}(hn:fn.ntmps=n)(l:List (kG × ak))(hl:fZ (⟨args++bE (n-args.size) af,[]⟩:kH).eval l)(h:∀a,ij n a l->c.wp P (bodyPost P fn R) a w)(hs:args.size<=n:=by simp):bu P f args w R:=
 calls_of_wp hf hb (by rw[hn];exact h _ (JD hs l hl))
end
def look(P:aL)(cs:Array ak){α:Type}:Sem α->Option (α × List Nat)
 |.pure a=>some (a,[])
 |.program k=>look P cs (k P)
 |.load _ a k=>match a.spot,cs[a.off]? with
  |none,some v=>match look P cs (k v) with
   |some (x,l)=>some (x,a.block::l)
   |none=>none
  |_,_=>none
 |_=>none
theorem nj{P:aL}{cs:Array ak}{α:Type}{w:ar}{s:Sem α}:∀ {a:α} {l:List Nat},look P cs s=some (a,l)->(∀b∈l,∃ty fr,w.heap[b]?=some (.cells cs ty fr))->s.run P w=.ok a w:=by
 induction s with
 |pure x=>intro a l h _;cases h;rfl
 |program k ih=>intro a l h hB;exact ih P h hB
 |load m ad k ih=>
  intro a l h hB;unfold look at h;cases hs:ad.spot with
  |some _=>rw[hs] at h;simp at h
  |none=>
   cases hc:cs[ad.off]? with
   |none=>rw[hs,hc] at h;simp at h
   |some v=>
    rw[hs,hc] at h;simp only[] at h;cases hk:look P cs (k v) with
    |none=>rw[hk] at h;simp at h
    |some x=>
     rw[hk] at h;obtain⟨x,l'⟩:=x;cases h
     have h1:w.cell? ad=some v:=by
      obtain⟨ty,fr,hb⟩:=hB ad.block (by simp);unfold dJ;rw[hb,hs];exact hc
     unfold Sem.run;rw[h1];exact ih v hk fun b hb=>hB b (bW _ hb)
 |_=>intro a l h _;cases h
def uC:Op->Option (List bL)
 |.move x|.assign x|.box _ x|.load _ x|.unOp _ _ x|.convert _ _ x|.fieldAddr _ x _|.field _ x _|.extract x _|.nilCheck x|.makeInterface _ x=>some [x]
 |.binOp _ _ x y _|.indexAddr _ x y|.index _ x y|.lookup _ x y _=>some [x,y]
 |.build _ ps|.buildSlice _ _ ps=>some (ps.toList.map (·.2))
 |.alloc _=>some []
 |.store _ x y|.makeSlice _ x y=>some [x,y]
 |.mapUpdate _ x y z=>some [x,y,z]
 |.slice _ x lo hi mx=>some (x::(lo.toList++(hi.toList++mx.toList)))
 |.makeFunc _ xs ys=>some (xs.toList++ys.toList)
 |.call c=>match c.callee with
  |.value f=>some (f::c.args.toList)
  |.builtin _=>some c.args.toList
  |_=>none
 |_=>none
theorem map_congr{α:Type}{f g:bL->α}{xs:Array bL}(h:∀x∈xs.toList,f x=g x):xs.map f=xs.map g:=by
 apply Array.ext';rw[vY,vY];exact FX h
theorem xP{α:Type}{f g:bL->α}{xs:Option bL}(h:∀x∈xs.toList,f x=g x):xs.map f=xs.map g:=by
 cases xs with
 |none=>rfl
 |some x=>simp[h x (by simp)]
theorem execOp_congr{o:cR}{ev E3:bL->ak}{l:List bL}(hl:uC o.op=some l)(h:∀x∈l,ev x=E3 x):cG ev o=cG E3 o:=by
 unfold cG;cases ho:o.op<;>rw[ho] at hl<;>simp only[uC] at hl<;>try (cases hl;done)
 case call c=>
  cases hc:c.callee<;>rw[hc] at hl<;>simp only[] at hl<;>try (cases hl;done)
  .cases hl;have h1:c.args.map ev=c.args.map E3:=map_congr fun x hx=>h x (bW _ hx);simp only[resolve,hc,h1,h _ (dz ..)]
  cases hl;have h1:c.args.map ev=c.args.map E3:=map_congr h;simp only[resolve,hc,h1]
 case build t ps=>
  cases hl
  have h1:(ps.map fun(x:Nat × bL)=>(x.1,ev x.2))=ps.map fun x=>(x.1,E3 x.2):=by
   apply Array.ext';rw[vY,vY];exact FX fun x hx=>by rw[h x.2 (dN.2 ⟨x,hx,rfl⟩)]
  simp only[h1]
 case buildSlice t k ps=>
  cases hl
  have h1:(ps.map fun(x:Nat × bL)=>(x.1,ev x.2))=ps.map fun x=>(x.1,E3 x.2):=by
   apply Array.ext';rw[vY,vY];exact FX fun x hx=>by rw[h x.2 (dN.2 ⟨x,hx,rfl⟩)]
  simp only[h1]
 case slice t x lo hi mx=>
  cases hl;have h1:lo.map ev=lo.map E3:=xP fun x hx=>h x (by simp[hx]);have h2:hi.map ev=hi.map E3:=xP fun x hx=>h x (by simp[hx]);have h3:mx.map ev=mx.map E3:=xP fun x hx=>h x (by simp[hx]);simp only[h1,h2,h3,h x (by simp)]
 case makeFunc fn xs ys=>
  cases hl;have h1:xs.map ev=xs.map E3:=map_congr fun x hx=>h x (by simp at hx ⊢;exact .inl hx);have h2:ys.map ev=ys.map E3:=map_congr fun x hx=>h x (by simp at hx ⊢;exact .inr hx);simp only[h1,h2]
 all_goals
  cases hl
  first
   |rfl
   |(simp only[h _ (dz ..)];done)
   |(simp only[h _ (dz ..),h _ (bW _ (dz ..))];done)
   |(simp only[h _ (dz ..),h _ (bW _ (dz ..)),h _ (bW _ (bW _ (dz ..)))];done)
structure Cf where
 lits:List (Nat × Bool)
 hs:List (Nat × ak)
 mem:List (Nat × Array ak)
 lds:List (Nat × Nat)
def l8{β:Type}:List (Nat × β)->Nat->Option β
 |[],_=>none
 |p::l,i=>bif FW p.1 i then some p.2 else l8 l i
theorem zB{β:Type}:∀ {l:List (Nat × β)} {i:Nat} {v:β},l8 l i=some v->(i,v)∈l
 |p::l,i,v,h=>by
  unfold l8 at h;cases hb:FW p.1 i with
  |true=>
   rw[hb] at h;have:=il hb;cases h;obtain⟨a,b⟩:=p;cases this;exact dz ..
  |false=>rw[hb] at h;exact bW _ (zB h)
abbrev En:=List (Nat × Bool) × ak × List Nat
def eqT:Option Nat->Nat->Bool
 |some d,t=>FW d t
 |none,_=>false
def xe(aN:Array cR):List Edge->kG->Option Nat
 |[],_=>none
 |e::l,t=>bif fG .any e&&eqT (eb aN e.on) t then some e.on else xe aN l t
theorem xJ{aN:Array cR}{t j:Nat}:∀ {l:List Edge},xe aN l t=some j->∃e∈l,e.on=j/\fG .any e=true/\eb aN j=some t
 |e::l,h=>by
  unfold xe at h;cases hb:(fG .any e&&eqT (eb aN e.on) t) with
  |true=>
   rw[hb] at h;cases h;rw[aI] at hb;refine⟨e,dz ..,rfl,hb.1,?_⟩;have:=hb.2;cases hd:eb aN e.on with
   |none=>rw[hd] at this;cases this
   |some d=>rw[hd] at this;rw[il this]
  |false=>
   rw[hb] at h;obtain⟨e',he,h1⟩:=xJ h;exact⟨e',bW _ he,h1⟩
def NT:ak->Bool->Bool
 |.bool true,b=>b
 |.bool false,b=>!b
 |_,_=>false
theorem ou{v:ak}{b:Bool}:NT v b=true↔v=.bool b:=by
 unfold NT;cases v<;>try simp
 rename_i x;cases x<;>cases b<;>simp
def bools:ak->ak->ak->ak
 |.bool t,.bool x,.bool y=>.bool (bif t then x else y)
 |_,_,_=>af
def isBool:ak->Bool
 |.bool _=>true
 |_=>false
def subs(a b:List (Nat × Bool)):Bool:=a.all fun p=>b.any fun q=>FW p.1 q.1&&(p.2==q.2)
section
variable(P:aL)(aN:Array cR)(base:List (kG × ak))(C:Cf)
def opAt(i:Nat):Oper:=(aN.toList).getD i default
def CB(st:Nat->En)(l:List Edge):bL->ak
 |.const v=>v
 |.global g=>.pointer (some ⟨g,0,none⟩)
 |.func f=>.func (.func f) #[] #[]
 |.tmp t=>match xe aN l t with
  |some j=>(st j).2.1
  |none=>(l8 base t).getD af
def vD(st:Nat->En)(l:List Edge)(ch:List (Nat × Bool)):bL->Bool
 |.tmp t=>match xe aN l t with
  |some j=>subs (st j).1 ch
  |none=>(l8 base t).isSome
 |_=>true
def P1(st:Nat->En)(o:cR):Option (List (Nat × Bool)):=
 match o.guard with
 |none=>some []
 |some (j,b)=>match l8 C.lits j with
  |some b'=>bif b'==b then some (st j).1 else none
  |none=>some ((j,b)::(st j).1)
def TS(l:List Edge):bL->Option Bool
 |.tmp t=>(xe aN l t).bind (l8 C.lits)
 |_=>none
def Pb(l:List Edge)(c:bL)(b:Bool)(ch:List (Nat × Bool)):List (Nat × Bool):=
 match c with
 |.tmp t=>match xe aN l t with
  |some j=>(j,b)::ch
  |none=>ch
 |_=>ch
def qD(i:Nat):Option (Nat × Array ak):=C.mem[(l8 C.lds i).getD 0]?
def U8(i:Nat):Array Value:=match qD C i with|some m=>m.2|none=>#[]
def EB(st:Nat->En)(i:Nat)(o:cR):Option (Next × List Nat):=look P (U8 C i) (cG (CB aN base st o.after.toList) o)
def xH(st:Nat->En)(i:Nat)(o:cR):ak × List Nat:=
 match l8 C.hs i with
 |some v=>(v,[])
 |none=>match o.op with
  |.pick c a b=>(match TS aN C o.after.toList c with
   |some true=>CB aN base st o.after.toList a
   |some false=>CB aN base st o.after.toList b
   |none=>bools (CB aN base st o.after.toList c) (CB aN base st o.after.toList a) (CB aN base st o.after.toList b),[])
  |_=>match EB P aN base C st i o with
   |some (.value v,bl)=>(v,bl)
   |_=>(af,[])
def vu(st:Nat->En)(i:Nat)(o:cR):En:=
 match P1 C st o with
 |none=>([],af,[])
 |some ch=>(ch,xH P aN base C st i o)
def Fv:Nat->List cR->(Nat->En)->Nat->En
 |_,[],st=>st
 |i,o::l,st=>Fv (i+1) l fun k=>bif FW k i then vu P aN base C st i o else st k
def nJ:Nat->En:=Fv P aN base C 0 aN.toList fun _=>([],af,[])
def okC(st:Nat->En)(i:Nat)(o:cR)(ch:List (Nat × Bool)):Bool:=
 match o.op with
 |.pick c a b=>(l8 C.hs i).isNone&&vD aN base st o.after.toList ch c&&(match TS aN C o.after.toList c with
  |some true=>NT (CB aN base st o.after.toList c) true&&vD aN base st o.after.toList ch a
  |some false=>NT (CB aN base st o.after.toList c) false&&vD aN base st o.after.toList ch b
  |none=>isBool (CB aN base st o.after.toList c)&&isBool (CB aN base st o.after.toList a)&&isBool (CB aN base st o.after.toList b) &&
   vD aN base st o.after.toList (Pb aN o.after.toList c true ch) a&&vD aN base st o.after.toList (Pb aN o.after.toList c false ch) b)
 |_=>(match uC o.op with
   |some l=>l.all (vD aN base st o.after.toList ch)
   |none=>false) &&
  (match l8 C.hs i with
  |some _=>true
  |none=>match EB P aN base C st i o with
   |some (.value _,bl)=>(qD C i).isSome||bl.isEmpty
   |_=>false)
def Vb(st:Nat->En):Nat->List cR->Bool
 |_,[]=>true
 |i,o::l=>((match o.guard with
  |some (j,_)=>(eb aN j).isSome&&(match l8 C.lits j with|some b'=>NT (st j).2.1 b'|none=>true)
  |none=>true)&&(match P1 C st o with
  |none=>true
  |some ch=>okC P aN base C st i o ch))&&Vb st (i+1) l
def ldL(st:Nat->En):Nat->List cR->List (List Nat)
 |_,[]=>[]
 |i,_::l=>(st i).2.2::ldL st (i+1) l
def ldR(st:Nat->En):Nat->List cR->List (List Nat)
 |_,[]=>[]
 |i,_::l=>((st i).2.2.map fun _=>((qD C i).map (·.1)).getD 0)::ldR st (i+1) l
def l6(st:Nat->En)(ch:List (Nat × Bool)):Bool:=ch.all fun p=>NT (st p.1).2.1 p.2
def l7(s:Sem Next)(w:ar)(v:ak):Prop:=
 match s.run P w with
 |.ok (.value u) w'=>u=v/\az w.heap.size w w'
 |.ok (.enter f args) w'=>w'=w/\bu P f args w fun e w''=>e=.returned v/\az w.heap.size w w''
 |_=>False
def MO(G:Nat->Sem Next->ar->ak->Prop)(S:ar->Prop)(st:Nat->En):List (Nat × ak)->Prop
 |[]=>True
 |p::l=>(∀w,S w->l6 st (st p.1).1=true->G p.1 (cG (CB aN base st (opAt aN p.1).after.toList) (opAt aN p.1)) w p.2)/\MO G S st l
def nL(S:ar->Prop):List (Nat × Array ak)->Prop
 |[]=>True
 |m::l=>(∀w,S w->∃ty fr,w.heap[m.1]?=some (.cells m.2 ty fr))/\nL S l
def xj(st:Nat->En)(i:Nat):Pred:=
 match eb aN i with
 |some _=>fun u _ _=>u=M4 (l6 st (st i).1) (st i).2.1
 |none=>fun _ _ _=>True
def pg(st:Nat->En):List Pred:=(aU aN.size).map (xj aN st)
def WI(st:Nat->En)(t:kG):List cR->Nat->Option ak
 |[],_=>none
 |o::l,i=>bif eqT o.dst t then(match (st i).1 with|[]=>some (st i).2.1|_=>none) else WI st t l (i+1)
end
section
variable{P:aL}{aN:Array cR}{base:List (kG × ak)}{C:Cf}{n:Nat}{S:ar->Prop}{outs:List (kG × ak)}
theorem l7.yields{o:cR}{ev:bL->ak}{w:ar}{v:ak}{R:ak->ar->Prop}(hg:l7 P (cG ev o) w v)(hR:∀w',az w.heap.size w w'->R v w'):Yields P o ev w R:=by
 unfold l7 at hg;unfold Yields;generalize (cG ev o).run P w=r at *;cases r with
 |halt x w'=>exact hg.elim
 |ok nx w'=>
  cases nx<;>simp only[] at hg<;>first|exact hg.elim|skip
  .obtain⟨rfl,hb⟩:=hg;exact hR _ hb
  obtain⟨rfl,hc⟩:=hg;exact hc.mono (by rintro e w'' ⟨rfl,hb⟩;exact⟨_,rfl,hR _ hb⟩)
theorem MO.get{G:Nat->Sem Next->ar->ak->Prop}{st:Nat->En}:∀ {l:List (Nat × ak)} {p:Nat × ak},MO aN base G S st l->p∈l->∀w,S w->l6 st (st p.1).1=true->G p.1 (cG (CB aN base st (opAt aN p.1).after.toList) (opAt aN p.1)) w p.2
 |q::l,p,h,hp=>by
  rcases cy.1 hp with rfl|hp
  .exact h.1
  exact MO.get h.2 hp
theorem nL.get:∀ {l:List (Nat × Array ak)} {m:Nat × Array ak},nL S l->m∈l->∀w,S w->∃ty fr,w.heap[m.1]?=some (.cells m.2 ty fr)
 |q::l,m,h,hp=>by
  rcases cy.1 hp with rfl|hp
  .exact h.1
  exact nL.get h.2 hp
theorem Fu:∀(l:List cR) (i:Nat) (st:Nat->En) (k:Nat),k<i->Fv P aN base C i l st k=st k
 |[],_,_,_,_=>rfl
 |o::l,i,st,k,h=>by
  unfold Fv;rw[Fu l (i+1) _ k (by omega)]
  have:FW k i=false:=by
   cases hb:FW k i with
   |false=>rfl
   |true=>have:=il hb;omega
  rw[this];rfl
theorem My:∀(l:List cR) (i:Nat) (st:Nat->En) (j:Nat) (o:cR),l[j]?=some o->∃Pk,Fv P aN base C i l st (i+j)=vu P aN base C Pk (i+j) o/\∀k,k<i+j->Pk k=Fv P aN base C i l st k
 |[],_,_,_,_,h=>by simp at h
 |x::l,i,st,j,o,h=>by
  unfold Fv;cases j with
  |zero=>
   simp at h;subst h;refine⟨st,?_,fun k hk=>?_⟩
   .simp only[Nat.add_zero];rw[Fu l (i+1) _ i (by omega)];have:FW i i=true:=Nat.beq_refl i;rw[this];rfl
   rw[Fu l (i+1) _ k (by omega)]
   have:FW k i=false:=by
    cases hb:FW k i with
    |false=>rfl
    |true=>have:=il hb;omega
   rw[this];rfl
  |succ j=>
   have:=My l (i+1) (fun k=>bif FW k i then vu P aN base C st i x else st k) j o (by simpa using h);rwa [show i+1+j=i+(j+1) by omega] at this
theorem RU{st Pk:Nat->En}{l:List Edge}(h:∀e∈l,fG .any e=true->st e.on=Pk e.on):CB aN base st l=CB aN base Pk l:=by
 funext x
 cases x<;>try rfl
 rename_i t;unfold CB;cases hs:xe aN l t with
 |none=>simp only[hs]
 |some j=>
  obtain⟨e,he,h1,h2,-⟩:=xJ hs;simp only[hs];rw[<-h1,h e he h2]
theorem Kt{st Pk:Nat->En}{i:Nat}{o:cR}(h:∀e∈o.after.toList,fG .any e=true->st e.on=Pk e.on)(hg:∀j b,o.guard=some (j,b)->st j=Pk j):vu P aN base C st i o=vu P aN base C Pk i o:=by
 have h1:=RU (aN:=aN) (base:=base) h
 have h2:P1 C st o=P1 C Pk o:=by
  unfold P1;cases hgd:o.guard with
  |none=>rfl
  |some jb=>obtain⟨j,b⟩:=jb;simp only[hg j b hgd]
 unfold vu xH EB;rw[h1,h2]
theorem Ct{o:cR}{i j:Nat}{b:Bool}(cY:ji aN n base=true)(ho:aN[i]?=some o)(hg:o.guard=some (j,b)):∃e∈o.after.toList,fG .any e=true/\e.on=j:=by
 have hi:i<aN.size:=(ai.1 ho).1;unfold ji at cY;rw[aI,a7] at cY;have h2:=cY.1 i (bP.2 hi);rw[ho] at h2;simp only[aI,hg] at h2;obtain⟨e,he,h3⟩:=qb.1 h2.2;rw[aI,decide_eq_true_eq] at h3;exact⟨e,he,h3⟩
theorem R9(cY:ji aN n base=true){i:Nat}{o:cR}(ho:aN[i]?=some o):nJ P aN base C i=vu P aN base C (nJ P aN base C) i o:=by
 obtain⟨Pk,h1,h2⟩:=My (P:=P) (aN:=aN) (base:=base) (C:=C) aN.toList 0 (fun _=>([],af,[])) i o (by simpa using ho);rw[di] at h1 h2;unfold nJ;rw[h1];refine Kt (fun e he hb=>h2 _ (Gd.qp cY ho he hb)) fun j b hg=>?_;obtain⟨e,he,hb,rfl⟩:=Ct cY ho hg;exact h2 _ (Gd.qp cY ho he hb)
theorem Wc{st:Nat->En}{i:Nat}{o:cR}(Rs:∀c a b,o.op≠.pick c a b)(A3:l8 C.hs i=none):xH P aN base C st i o=match EB P aN base C st i o with|some (.value v,bl)=>(v,bl)|_=>(af,[]):=by
 unfold xH;rw[A3];cases ho:o.op<;>first|exact absurd ho (Rs _ _ _)|rfl
theorem ZG{st:Nat->En}{i:Nat}{o:cR}{ch:List (Nat × Bool)}(Rs:∀c a b,o.op≠.pick c a b):okC P aN base C st i o ch=((match uC o.op with | some l=>l.all (vD aN base st o.after.toList ch) | none=>false)&&(match l8 C.hs i with | some _=>true | none=>match EB P aN base C st i o with | some (.value _,bl)=>(qD C i).isSome||bl.isEmpty | _=>false)):=by
 unfold okC;cases ho:o.op<;>first|exact absurd ho (Rs _ _ _)|rfl
theorem Ei{st:Nat->En}{i:Nat}{u:ak}{ds:List ak}{w w':ar}(h:xj aN st i u ds w):xj aN st i u ds w':=by
 unfold xj at h ⊢;cases hd:eb aN i with
 |none=>trivial
 |some d=>rw[hd] at h;exact h
theorem sT{st:Nat->En}{i:Nat}(hi:i<aN.size):gq (pg aN st) i=xj aN st i:=by
 unfold gq pg;simp[List.getD,hi]
theorem Qv{st:Nat->En}{a b:List (Nat × Bool)}(h:subs a b=true)(hc:l6 st b=true):l6 st a=true:=by
 unfold subs at h;unfold l6 at *;rw[a7] at *;intro p hp;obtain⟨q,hq,h1⟩:=qb.1 (h p hp);rw[aI] at h1;have h2:=hc q hq;rw[il h1.1,eq_of_beq h1.2];exact h2
theorem Mm{st:Nat->En}:∀ {l:List cR} {i j:Nat} {o:cR},Vb P aN base C st i l=true->l[j]?=some o->
  (∀k b,o.guard=some (k,b)->(eb aN k).isSome=true/\∀b',l8 C.lits k=some b'->NT (st k).2.1 b'=true)/\∀ch,P1 C st o=some ch->okC P aN base C st (i+j) o ch=true
 |[],_,_,_,_,h=>by simp at h
 |x::l,i,j,o,hc,h=>by
  unfold Vb at hc;rw[aI,aI] at hc;cases j with
  |zero=>
   simp at h;subst h;refine⟨fun k b hg=>?_,fun ch hg=>?_⟩
   .have:=hc.1.1;rw[hg,aI] at this;refine⟨this.1,fun b' hk=>?_⟩;have h2:=this.2;simp only[hk] at h2;exact h2
   have:=hc.1.2;rw[hg] at this;exact this
  |succ j=>
   have:=Mm hc.2 (j:=j) (by simpa using h);rwa [show i+1+j=i+(j+1) by omega] at this
theorem TU{st:Nat->En}:∀ {l:List cR} {i j:Nat},ldL st i l=ldR C st i l->j<l.length->∀b∈(st (i+j)).2.2,b=((qD C (i+j)).map (·.1)).getD 0
 |[],_,_,_,h=>by simp at h
 |x::l,i,j,he,h=>by
  unfold ldL ldR at he;rw[Ax] at he;cases j with
  |zero=>
   intro b hb;rw[Nat.add_zero] at hb ⊢;have h1:=he.1;rw[h1] at hb;obtain⟨_,_,rfl⟩:=dN.1 hb;rfl
  |succ j=>
   have:=TU he.2 (j:=j) (by simpa using h);rwa [show i+1+j=i+(j+1) by omega] at this
theorem Zx{st:Nat->En}{ev:bL->ak}{w:ar}{o:cR}{i:Nat}{ch:List (Nat × Bool)}(cY:ji aN n base=true)(ho:aN[i]?=some o)(hc:∀v,ev (.const v)=v)(hg:∀g,ev (.global g)=.pointer (some ⟨g,0,none⟩))(hf:∀f,ev (.func f)=.func (.func f) #[] #[])
  (hb:fZ ev base) (hd:∀e∈o.after.toList,fG .any e=true->gq (pg aN st) e.on (jg (eb aN e.on) ev) (gu aN ev (fV aN e.on)) w) (l5:l6 st ch=true):∀ {x:bL},vD aN base st o.after.toList ch x=true->ev x=CB aN base st o.after.toList x
 |.const v,_=>hc v
 |.global g,_=>hg g
 |.func f,_=>hf f
 |.tmp t,h=>by
  unfold vD at h;unfold CB;simp only[] at h ⊢;cases hs:xe aN o.after.toList t with
  |none=>
   rw[hs] at h;simp only[] at h ⊢;cases hk:l8 base t with
   |none=>rw[hk] at h;cases h
   |some v=>
    have:=zB hk;clear hd cY hk h
    induction base with
    |nil=>cases this
    |cons p l ih=>
     rcases cy.1 this with rfl|h2
     .exact hb.1
     exact ih hb.2 h2
  |some j=>
   rw[hs] at h;simp only[] at h ⊢;obtain⟨e,he,rfl,h2,h3⟩:=xJ hs;have h4:=hd e he h2;have hlt:=Gd.qp cY ho he h2;have hi:i<aN.size:=(ai.1 ho).1;rw[sT (by omega)] at h4;unfold xj at h4;rw[h3] at h4;simp only[jg] at h4;rw[h4,Qv h l5];rfl
theorem Me{Vs:List Pred}{ev:bL->ak}{w:ar}:∀ {l:List Edge},FI aN Vs ev w l->∀e∈l,fG .any e=true->gq Vs e.on (jg (eb aN e.on) ev) (gu aN ev (fV aN e.on)) w
 |e::l,h,e',he,hb=>by
  rcases cy.1 he with rfl|he
  .exact h.1 hb
  exact Me h.2 e' he hb
theorem Vh{Y:mE}{G:Nat->Sem Next->ar->ak->Prop}{T:ar->ar->Prop}(VT:∀w w',S w->T w w'->S w')(RB:∀w,T w w){i:Nat}{o:cR}(ho:aN[i]?=some o)
  (hp:l8 C.hs i=none->∀ev w R v,(cG ev o).run P w=.ok (.value v) w->R v w->Y o ev w R) (hG:∀ev w v R,S w->G i (cG ev o) w v->(∀w',T w w'->R v w')->Y o ev w R)
  (cY:ji aN n base=true) (hck:Vb P aN base C (nJ P aN base C) 0 aN.toList=true) (Ru:ldL (nJ P aN base C) 0 aN.toList=ldR C (nJ P aN base C) 0 aN.toList) (hm:nL S C.mem)
  (hh:MO aN base G S (nJ P aN base C) C.hs):Gd.Qg Y aN (pg aN (nJ P aN base C)) S base i o:=by
 intro ev w hS hc hg hf hb hd;have hi:i<aN.size:=(ai.1 ho).1;have hat:opAt aN i=o:=by unfold opAt;simp[List.getD,ho]
 have hstep:=R9 (P:=P) (C:=C) cY ho;obtain⟨qG,hk2⟩:=Mm hck (j:=i) (by simpa using ho);rw[di] at hk2;have Ru:=TU Ru (j:=i) (by simpa using hi);rw[di] at Ru;generalize hst:nJ P aN base C=st at *;have hdm:=Me hd
 have post:∀ {v:ak} {w':ar},(∀d,o.dst=some d->v=M4 (l6 st (st i).1) (st i).2.1)->T w w'->Post aN ev (pg aN st) S i o w v w':=fun {v w'} hv ht=>by
  refine⟨?_,.inr ⟨VT _ _ hS ht,fun k u ds hk hu=>?_⟩⟩
  .rw[sT hi];unfold xj eb;rw[ho];simp only[gK];cases uR:o.dst with
   |none=>trivial
   |some d=>exact hv d uR
  by_cases hks:k<aN.size
  .rw[sT hks] at hu ⊢;exact Ei hu
  unfold gq pg;simp[List.getD,hks]
 have go:∀ch,P1 C st o=some ch->l6 st ch=true->Y o ev w (Post aN ev (pg aN st) S i o w):=fun ch hgd l5=>by
  have uQ:=hk2 ch hgd
  have VM:st i=(ch,xH P aN base C st i o):=by
   rw[hstep];unfold vu;rw[hgd]
  have hval:∀d,o.dst=some d->(xH P aN base C st i o).1=M4 (l6 st (st i).1) (st i).2.1:=fun d _=>by
   rw[VM];show(xH P aN base C st i o).1=M4 (l6 st ch) (xH P aN base C st i o).1;rw[l5];rfl
  have hop:∀ {ch':List (Nat × Bool)} {x:bL},l6 st ch'=true->vD aN base st o.after.toList ch' x=true->ev x=CB aN base st o.after.toList x:=fun h1 h2=>Zx cY ho hc hg hf hb hdm h1 h2
  have rest:(∀c a b,o.op≠.pick c a b)->Y o ev w (Post aN ev (pg aN st) S i o w):=fun Rs=>by
   have h5:(match uC o.op with | some l=>l.all (vD aN base st o.after.toList ch) | none=>false)=true/\(match l8 C.hs i with | some _=>true | none=>match EB P aN base C st i o with | some (.value _,bl)=>(qD C i).isSome||bl.isEmpty | _=>false)=true:=by
    rw[ZG Rs,aI] at uQ;exact uQ
   cases hl:uC o.op with
   |none=>rw[hl] at h5;cases h5.1
   |some l=>
    rw[hl] at h5;have hex:cG ev o=cG (CB aN base st o.after.toList) o:=execOp_congr hl fun x hx=>hop l5 (a7.1 h5.1 x hx);cases A3:l8 C.hs i with
    |some v=>
     have h6:=hh.get (zB A3) w hS (by rw[VM];exact l5);simp only[hat] at h6;rw[<-hex] at h6;have hv:(xH P aN base C st i o).1=v:=by unfold xH;rw[A3]
     rw[hv] at hval;exact hG ev w v _ hS h6 fun w' ht=>post hval ht
    |none=>
     rw[A3] at h5;cases hlk:EB P aN base C st i o with
     |none=>rw[hlk] at h5;cases h5.2
     |some nb=>
      obtain⟨nx,bl⟩:=nb;rw[hlk] at h5;cases nx<;>try (cases h5.2;done)
      rename_i v;have hv:xH P aN base C st i o=(v,bl):=by rw[Wc Rs A3,hlk]
      rw[hv] at hval VM
      have hbl:∀b∈bl,∃ty fr,w.heap[b]?=some (.cells (U8 C i) ty fr):=fun b Rz=>by
       have h7:=Ru b (by rw[VM];exact Rz);have h8:=h5.2;simp only[] at h8;unfold U8;cases hmm:qD C i with
       |none=>
        rw[hmm] at h8;cases bl with
        |nil=>cases Rz
        |cons _ _=>cases h8
       |some m=>
        rw[hmm] at h7;have h7:b=m.1:=h7;subst h7;unfold qD at hmm;exact hm.get (List.mem_of_getElem? hmm) w hS
      have hrun:=nj (w:=w) hlk hbl;rw[<-hex] at hrun;exact hp A3 ev w _ v hrun (post hval (RB w))
  by_cases FO:∃c a b,o.op=.pick c a b
  case neg=>exact rest fun c a b h=>FO ⟨c,a,b,h⟩
  obtain⟨c,a,b,A2⟩:=FO;unfold okC at uQ;rw[A2] at uQ;simp only[aI] at uQ;obtain⟨⟨hnone,aac⟩,rY⟩:=uQ;have A3:l8 C.hs i=none:=by simpa using hnone
  have N7:=hop l5 aac;cases Jr:TS aN C o.after.toList c with
  |some t=>
   rw[Jr] at rY
   have hv:(xH P aN base C st i o).1=if t then CB aN base st o.after.toList a else CB aN base st o.after.toList b:=by
    unfold xH;rw[A3,A2];simp only[Jr];cases t<;>rfl
   cases t with
   |true=>
    rw[aI] at rY;have hrun:=ry (P:=P) (w:=w) A2 (N7.trans (ou.1 rY.1));refine hp A3 ev w _ _ hrun (post (fun d hd=>?_) (RB w));rw[<-hval d hd,hv];exact hop l5 rY.2
   |false=>
    rw[aI] at rY;have hrun:=ry (P:=P) (w:=w) A2 (N7.trans (ou.1 rY.1));refine hp A3 ev w _ _ hrun (post (fun d hd=>?_) (RB w));rw[<-hval d hd,hv];exact hop l5 rY.2
  |none=>
   rw[Jr] at rY;simp only[aI] at rY;obtain⟨⟨⟨⟨h1,h2⟩,h3⟩,h4⟩,h5⟩:=rY
   have hv:(xH P aN base C st i o).1=bools (CB aN base st o.after.toList c) (CB aN base st o.after.toList a) (CB aN base st o.after.toList b):=by
    unfold xH;rw[A3,A2];simp only[Jr]
   have ib:∀ {v:ak},isBool v=true->∃x,v=.bool x:=fun {v} h=>by cases v<;>first|exact⟨_,rfl⟩|cases h
   obtain⟨t,ht⟩:=ib h1;obtain⟨x,hx⟩:=ib h2;obtain⟨y,hy⟩:=ib h3
   have hw:∀q,t=q->l6 st (Pb aN o.after.toList c q ch)=true:=fun q hq=>by
    unfold Pb;cases c<;>simp only[]<;>try exact l5
    rename_i tc;cases hs:xe aN o.after.toList tc with
    |none=>exact l5
    |some j=>
     have:(st j).2.1=.bool t:=by
      have:=ht;unfold CB at this;simp only[hs] at this;exact this
     unfold l6 at l5 ⊢;rw[dT,l5,this,hq];cases q<;>rfl
   have hrun:=ry (P:=P) (w:=w) A2 (N7.trans ht);refine hp A3 ev w _ _ hrun (post (fun d hd=>?_) (RB w));rw[<-hval d hd,hv,ht,hx,hy];cases t with
   |true=>exact(hop (hw true rfl) h4).trans hx
   |false=>exact(hop (hw false rfl) h5).trans hy
 cases hgd:o.guard with
 |none=>
  exact go [] (by unfold P1;rw[hgd]) rfl
 |some jb=>
  obtain⟨j,b⟩:=jb;simp only[];obtain⟨e,he,heb,rfl⟩:=Ct cY ho hgd;have EI:=hdm e he heb;have hlt:=Gd.qp cY ho he heb;rw[sT (by omega)] at EI;obtain⟨hsome,qG⟩:=qG _ _ hgd;obtain⟨d0,hdd⟩:=Option.isSome_iff_exists.1 hsome;unfold xj at EI;rw[hdd] at EI;simp only[] at EI;generalize hvv:jg (some d0) ev=val at *;rw[hdd,hvv];cases hk:l8 C.lits e.on with
  |some b'=>
   have ahs:=ou.1 (qG _ hk);rw[ahs] at EI
   by_cases tN:b'=b
   .subst tN;have wQ:P1 C st o=some (st e.on).1:=by unfold P1;rw[hgd];simp only[hk];simp
    have VM:(st i).1=(st e.on).1:=by rw[hstep];unfold vu;rw[wQ]
    refine⟨fun hv=>go _ wQ ?_,fun hv=>post (fun d _=>?_) (RB w)⟩
    .rw[hv] at EI;cases hcc:l6 st (st e.on).1 with
     |true=>rfl
     |false=>rw[hcc] at EI;simp[M4,af] at EI
    .rw[VM];cases hcc:l6 st (st e.on).1 with
     |false=>rfl
     |true=>rw[hcc] at EI;exact absurd EI hv
   .have wQ:P1 C st o=none:=by
     unfold P1;rw[hgd];simp only[hk];have:(b'==b)=false:=beq_false_of_ne tN;rw[this];rfl
    have VM:st i=([],af,[]):=by rw[hstep];unfold vu;rw[wQ]
    refine⟨fun hv=>?_,fun hv=>post (fun d _=>by rw[VM];rfl) (RB w)⟩;exfalso;rw[hv] at EI;cases hcc:l6 st (st e.on).1 with
    |true=>rw[hcc] at EI;simp[M4] at EI;exact tN EI.symm
    |false=>rw[hcc] at EI;simp[M4,af] at EI
  |none=>
   have wQ:P1 C st o=some ((e.on,b)::(st e.on).1):=by unfold P1;rw[hgd];simp only[hk]
   have VM:(st i).1=(e.on,b)::(st e.on).1:=by rw[hstep];unfold vu;rw[wQ]
   have hca:l6 st ((e.on,b)::(st e.on).1)=(NT (st e.on).2.1 b&&l6 st (st e.on).1):=by unfold l6;rw[dT]
   refine⟨fun hv=>go _ wQ ?_,fun hv=>post (fun d _=>?_) (RB w)⟩
   .rw[hca];rw[hv] at EI;cases hcc:l6 st (st e.on).1 with
    |true=>
     rw[hcc] at EI;have h1:(st e.on).2.1=.bool b:=EI.symm;rw[h1];cases b<;>rfl
    |false=>rw[hcc] at EI;simp[M4,af] at EI
   .rw[VM,hca];cases hcc:l6 st (st e.on).1 with
    |false=>rw[Bool.and_false];rfl
    |true=>
     cases hib:NT (st e.on).2.1 b with
     |false=>rfl
     |true=>
      rw[hcc,ou.1 hib] at EI;exact absurd EI hv
theorem Hz{Y:mE}:∀ {i:Nat} {l:List cR} {Vs:List Pred},(∀j o,l[j]?=some o->Gd.Qg Y aN Vs S base (i+j) o)->Gd.Each Y aN Vs S base i l
 |_,[],_,_=>trivial
 |i,o::l,Vs,h=>⟨by have:=h 0 o (by simp);rwa [Nat.add_zero] at this,Hz fun j o' hj=>by have:=h (j+1) o' (by simpa using hj);rwa [show i+(j+1)=i+1+j by omega] at this⟩
def KN(P:aL)(aN:Array cR)(n:Nat)(base:List (kG × ak))(C:Cf)(outs:List (kG × ak)):Bool × List (List Nat) × List (Option ak):=
 (ji aN n base&&Vb P aN base C (nJ P aN base C) 0 aN.toList,ldL (nJ P aN base C) 0 aN.toList,outs.map fun p=>WI (nJ P aN base C) p.1 aN.toList 0)
def Ca(P:aL)(aN:Array cR)(base:List (kG × ak))(C:Cf)(outs:List (kG × ak)):Bool × List (List Nat) × List (Option ak):=(true,ldR C (nJ P aN base C) 0 aN.toList,outs.map fun p=>some p.2)
theorem H6(VT:∀w w',S w->az w.heap.size w w'->S w')(hr:KN P aN n base C outs=Ca P aN base C outs)(hm:nL S C.mem)(hh:MO aN base (fun _=>l7 P) S (nJ P aN base C) C.hs) :
  Gd.Each (Yields P) aN (pg aN (nJ P aN base C)) S base 0 aN.toList:=by
 unfold KN Ca at hr;rw[iO,iO,aI] at hr;obtain⟨⟨cY,hck⟩,Ru,-⟩:=hr;refine Hz fun j o hj=>?_;rw[di];exact Vh (T:=fun w w'=>az w.heap.size w w') VT (fun w=>au _ _) (by simpa using hj) (fun _ ev w R v hrun hR=>.value hrun hR) (fun ev w v R _ hg hR=>hg.yields hR) cY hck Ru hm hh
theorem xi{st:Nat->En}:jv S (pg aN st):=by
 unfold pg
 have:∀l:List Nat,jv S (l.map (xj aN st)):=fun l=>by
  induction l with
  |nil=>trivial
  |cons i l ih=>
   exact⟨fun u ds w w' _ h _=>Ei h,ih⟩
 exact this _
theorem Pu{st:Nat->En}{t:kG}{v:ak}:∀ {l:List cR} {i:Nat},WI st t l i=some v->∃j o,l[j]?=some o/\o.dst=some t/\(st (i+j)).1=[]/\(st (i+j)).2.1=v
 |o::l,i,h=>by
  unfold WI at h;cases hb:eqT o.dst t with
  |true=>
   rw[hb] at h;simp only[cond_true] at h;cases hs:(st i).1 with
   |nil=>
    rw[hs] at h;refine⟨0,o,rfl,?_,hs,by simpa using h⟩;cases hd:o.dst with
    |none=>rw[hd] at hb;cases hb
    |some d=>rw[hd] at hb;rw[il hb]
   |cons _ _=>rw[hs] at h;cases h
  |false=>
   rw[hb] at h;obtain⟨j,o',h1,h2,h3,h4⟩:=Pu h;exact⟨j+1,o',by simpa using h1,h2,by rwa [show i+(j+1)=i+1+j by omega],by rwa [show i+(j+1)=i+1+j by omega]⟩
theorem Fs{a0 a:kH}{w:ar}(hF:ij n a0 base)(hr:KN P aN n base C outs=Ca P aN base C outs)(h:jm aN (pg aN (nJ P aN base C)) S a0 (bE aN.size true) a w):ij n a (outs++base):=by
 unfold KN Ca at hr;rw[iO,iO,aI] at hr;obtain⟨⟨cY,-⟩,-,hout⟩:=hr
 have Uj:ij n a base:=⟨h.size.trans hF.size,h.defers.trans hF.defers,hF.base.congr fun p hp=>h.keep _ fun o' ho' hd=>by
  obtain⟨k,hk,rfl⟩:=jy ho';have qZ:k<aN.size:=by simpa using hk
  unfold ji at cY;rw[aI,a7] at cY;have h3:=cY.1 k (bP.2 qZ);rw[aQ qZ] at h3;simp only[rp] at hd;simp only[aI,hd] at h3;have:=a7.1 h3.1.2.1.2 p hp
  simp at this⟩
 refine⟨Uj.size,Uj.defers,?_⟩
 induction outs with
 |nil=>exact Uj.base
 |cons p l ih=>
  rw[List.map_cons,List.map_cons,Ax] at hout;refine⟨?_,ih hout.2⟩;obtain⟨j,o,h1,h2,h3,h4⟩:=Pu hout.1;rw[di] at h3 h4
  have hj:j<aN.size:=by
   have:=(oY.1 h1).1;simpa using this
  have hv:=h.vals j (by simp[eD,hj]);have MZ:eb aN j=some p.1:=by unfold eb;rw[show aN[j]?=some o by simpa using h1];exact h2
  rw[sT hj] at hv;unfold xj at hv;rw[MZ] at hv;simp only[jg] at hv;rw[hv,h3,h4];rfl
theorem Ps(hr:KN P aN n base C outs=Ca P aN base C outs):ji aN n base=true:=by
 unfold KN Ca at hr;rw[iO,aI] at hr;exact hr.1.1
def vd(K:List (kG × ak)->Prop):List (kG × ak)->List (kG × ak)->Prop
 |[],l=>K l
 |p::r,l=>vd K r (p::l)
theorem vd.get{K:List (kG × ak)->Prop}:∀ {r l:List (kG × ak)},vd K r l->K (r.reverse++l)
 |[],l,h=>h
 |p::r,l,h=>by have:=vd.get (r:=r) h;simpa using this
theorem ij.rev{n:Nat}{a:kH}{r l:List (kG × ak)}(h:ij n a (r++l)):ij n a (r.reverse++l):=by
 refine⟨h.size,h.defers,?_⟩;have h1:=h.base;clear h
 have iff:∀(ev:bL->ak) (l:List (kG × ak)),fZ ev l↔∀p∈l,ev (.tmp p.1)=p.2:=fun ev l=>by
  induction l with
  |nil=>simp[fZ]
  |cons p l ih=>simp[fZ,ih]
 rw[iff] at *;intro p hp;refine h1 p ?_;simp at hp ⊢;exact hp
variable{Q:Exit->kH->ar->Prop}
theorem P9(hmx:P.follows .mixedOrders=true)(C:Cf)(outs:List (kG × ak)){id:Nat}{y:gR}{a0:kH}{W:ar}(hF:ij n a0 base)(hm:nL (fun w=>az W.heap.size W w) C.mem)(hh:MO aN base (fun _=>l7 P) (fun w=>az W.heap.size W w) (nJ P aN base C) C.hs)(hy:vd (fun l=>∀a w,az W.heap.size W w->ij n a l->y.wp P Q a w) outs base)(hr:KN P aN n base C outs=Ca P aN base C outs:=by kernel_rfl):(Code.seq (.region id aN true) y).wp P Q a0 W:=
 Md hmx _ base (Ps hr) hF.size hF.base xi (H6 (fun _ _ h hb=>h.trans (hb.mono h.size)) hr hm hh) fun a w h=>hy.get a w h.s (Fs hF hr h).rev
theorem abq(hmx:P.follows .mixedOrders=true)(C:Cf)(outs:List (kG × ak)){id:Nat}{a0:kH}{W:ar}(hF:ij n a0 base)(hm:nL (fun w=>az W.heap.size W w) C.mem)(hh:MO aN base (fun _=>l7 P) (fun w=>az W.heap.size W w) (nJ P aN base C) C.hs)(hy:vd (fun l=>∀a w,az W.heap.size W w->ij n a l->Q .normal a w) outs base)(hr:KN P aN n base C outs=Ca P aN base C outs:=by kernel_rfl):(Code.region id aN true).wp P Q a0 W:=
 aeY hmx _ base (Ps hr) hF.size hF.base xi (H6 (fun _ _ h hb=>h.trans (hb.mono h.size)) hr hm hh) fun a w h=>hy.get a w h.s (Fs hF hr h).rev
variable{s:Sem Next}{w:ar}{v:ak}
theorem gc{f:FuncId}{args:Array ak}(h:bu P f args w fun e w'=>e=.returned v/\az w.heap.size w w')(he:look P #[] s=some (.enter f args,[]):=by kernel_rfl):l7 P s w v:=by
 unfold l7;rw[nj he (by simp)];exact⟨rfl,h⟩
theorem ge{u:ak}(h:u=v)(he:look P #[] s=some (.value u,[]):=by kernel_rfl):l7 P s w v:=by
 unfold l7;rw[nj he (by simp)];exact⟨h,au _ _⟩
theorem gs(s':Sem ak)(h:s'.run P w=.ok v w)(he:s=(do pure (.value (<-s'))):=by kernel_rfl):l7 P s w v:=by
 unfold l7;rw[he,Sem.run_bind,h];exact⟨rfl,au _ _⟩
theorem gr(h:s.run P w=.ok (.value v) w):l7 P s w v:=by
 unfold l7;rw[h];exact⟨rfl,au _ _⟩
def TR(P:aL)(v:ak):Sem Next->Option (Addr × Option (Next × List Nat))
 |.load _ a k=>some (a,look P #[] (k v))
 |.program k=>TR P v (k P)
 |_=>none
theorem gl{a:Addr}(h:w.cell? a=some v)(he:TR P v s=some (a,some (.value v,[])):=by kernel_rfl):l7 P s w v:=by
 refine gr ?_
 induction s with
 |load m b k _=>
  unfold TR at he;simp only[Option.some.injEq,iO] at he;obtain⟨rfl,he⟩:=he
  conv=>lhs;unfold Sem.run
  rw[h];exact nj he (by simp)
 |program k ih=>exact ih P he
 |_=>cases he
end
end Go.Lag
namespace Go.Proofs.YtffladgmkiimjaaGreatDoor
open Go Go.RowKit Go.Lag Go.ChangeShapes Go.WideShapes
theorem aiM:Tryz.prog.cellTypes Tryz.prog.depth 28=some [3,3,3,3,3,3,3,3,3,3,3,3,24,25,26]:=by kernel_rfl
theorem aiR:Tryz.prog.cellsOf 28=15:=by kernel_rfl
theorem aiO:Tryz.prog.cellsOf 79=3:=by kernel_rfl
def SliceAt(W:ar)(v:ak):Prop:=v=.slice none 0 0\/∃g off n c,v=.slice (some ⟨g,off,none⟩) n c/\n<=c/\g<W.heap.size
theorem Ky{W:ar}{base:Nat}{t e:aZ}{v:ak}(ht:Tryz.prog.underlying t=some (.slice e))(h:Cell.okWide aq W .any base t v):SliceAt W v:=by
 unfold Cell.okWide Cell.ok at h;rw[ht] at h;cases v<;>simp only at h<;>try exact h.elim
 rename_i p n c;cases p with
 |none=>
  cases n<;>cases c<;>simp only at h<;>first|exact h.elim|exact .inl rfl
 |some a=>
  obtain⟨h1,h2,-,h3,row,cells,h4,-⟩:=h;obtain⟨b,o,s⟩:=a;cases h3;refine .inr ⟨b,o,n,c,rfl,h1,?_⟩;unfold World.shape? at h4
  by_cases hb:b<W.heap.size
  .exact hb
  rw[fH (show W.heap.size<=b from Nat.le_of_not_lt hb)] at h4;simp at h4
theorem T1{W:ar}{base:Nat}{t:aZ}{k:IntKind}{v:ak}(ht:Tryz.prog.underlying t=some (.int k))(h:Cell.okWide aq W .any base t v):∃x,v=.int k x/\k.has x:=by
 unfold Cell.okWide Cell.ok at h;rw[ht] at h;cases v<;>simp only at h<;>try exact h.elim
 obtain⟨rfl,h⟩:=h;exact⟨_,rfl,h⟩
theorem XZ{W:ar}{base:Nat}{v:ak}(h:Value.okWide aq W .any base 28 v):∃(b:BB) (m s k:ak),v=.agg (b.cells m s k)/\SliceAt W m/\SliceAt W s/\SliceAt W k:=by
 unfold Value.okWide at h;rw[cJ] at h;obtain⟨cs,rfl,hc,ts,hts,-,hall⟩:=h;rw[aiM] at hts;cases hts;rw[aiR] at hc
 have hi:∀i (h:i<12),∃x,cs[i]?=some (.int .i64 x):=by
  intro i h;have hl:i<cs.size:=by omega
  obtain⟨u,hu,cY⟩:=hall i _ (aQ hl)
  have h3:u=3:=by
   rw[Nat.mod_eq_of_lt (by simp;omega)] at hu
   match i,h,hu with
   |0,_,hu|1,_,hu|2,_,hu|3,_,hu|4,_,hu|5,_,hu|6,_,hu|7,_,hu|8,_,hu|9,_,hu|10,_,hu|11,_,hu=>simpa using hu.symm
  subst h3;obtain⟨x,hx,-⟩:=T1 eL cY;exact⟨x,(aQ hl).trans (congrArg some hx)⟩
 have hs:∀i t (h:i<15),[3,3,3,3,3,3,3,3,3,3,3,3,24,25,26][i]?=some t->∀e,Tryz.prog.underlying t=some (.slice e)->∃x,cs[i]?=some x/\SliceAt W x:=by
  intro i t h ht e he;have hl:i<cs.size:=by omega
  obtain⟨u,hu,cY⟩:=hall i _ (aQ hl);rw[Nat.mod_eq_of_lt (by simpa using h),ht] at hu;cases hu;exact⟨_,aQ hl,Ky he cY⟩
 obtain⟨x0,e0⟩:=hi 0 (by omega);obtain⟨x1,e1⟩:=hi 1 (by omega);obtain⟨x2,e2⟩:=hi 2 (by omega);obtain⟨x3,e3⟩:=hi 3 (by omega);obtain⟨x4,e4⟩:=hi 4 (by omega);obtain⟨x5,e5⟩:=hi 5 (by omega);obtain⟨x6,e6⟩:=hi 6 (by omega);obtain⟨x7,e7⟩:=hi 7 (by omega);obtain⟨x8,e8⟩:=hi 8 (by omega);obtain⟨x9,e9⟩:=hi 9 (by omega);obtain⟨oh,JI⟩:=hi 10 (by omega);obtain⟨og,e11⟩:=hi 11 (by omega);obtain⟨m,Y6,hm⟩:=hs 12 24 (by omega) rfl _ Tryz.underlying24;obtain⟨s,e13,hs'⟩:=hs 13 25 (by omega) rfl _ Tryz.underlying25;obtain⟨k,FU,hk⟩:=hs 14 26 (by omega) rfl _ Tryz.underlying26;refine⟨⟨x0,x1,x2,x3,x4,x5,x6,x7,x8,x9,oh,og⟩,m,s,k,?_,hm,hs',hk⟩
 congr 1
 apply Array.ext';apply List.ext_getElem?;intro i
 by_cases h:i<15
 .rw[Array.getElem?_toList,Array.getElem?_toList]
  match i,h with
  |0,_=>exact e0
  |1,_=>exact e1
  |2,_=>exact e2
  |3,_=>exact e3
  |4,_=>exact e4
  |5,_=>exact e5
  |6,_=>exact e6
  |7,_=>exact e7
  |8,_=>exact e8
  |9,_=>exact e9
  |10,_=>exact JI
  |11,_=>exact e11
  |12,_=>exact Y6
  |13,_=>exact e13
  |14,_=>exact FU
 rw[Array.getElem?_toList,Array.getElem?_toList,fH (by omega),fH (by simp;omega)]
theorem Vc{W:ar}{base:Nat}{a:Addr}{cs:List ak}(h:W.cells? base a 3=some cs):∃x y z,cs=[x,y,z]/\W.cell? (a.add 0)=some x/\W.cell? (a.add 1)=some y/\W.cell? (a.add 2)=some z:=by
 unfold World.cells? at h;split at h
 .simp only[show aU 3=[0,1,2] from rfl,List.mapM_cons,List.mapM_nil] at h;cases h0:W.cell? (a.add 0)<;>rw[h0] at h<;>simp at h;cases h1:W.cell? (a.add 1)<;>rw[h1] at h<;>simp at h;cases h2:W.cell? (a.add 2)<;>rw[h2] at h<;>simp at h;exact⟨_,_,_,h.symm,rfl,rfl,rfl⟩
 cases h
theorem oU(g off k:Nat):(⟨g,off,none⟩:Addr).add k=⟨g,off+k,none⟩:=by
 unfold Addr.add;split
 .rename_i h;rw[h];rfl
 rfl
section
variable{H:Type}{enc:aZ × ak->H}{W:ar}{sp:Nat->Bool}{hd:Bool}
theorem OI{fuel:Nat}{b:BB}{m s k:ak}{x:DataW H × List MemPlace}(h:DataW.trod enc aq W 0 sp hd fuel 28 (b.cells m s k).toList=some x) :
  (∃n y,DataW.trod enc aq W 0 sp hd n 24 [m]=some y)/\(∃n y,DataW.trod enc aq W 0 sp hd n 25 [s]=some y)/\(∃n y,DataW.trod enc aq W 0 sp hd n 26 [k]=some y):=by
 obtain⟨xs,n,-,-,-,hlen,hf⟩:=DataW.trod_struct cJ h;have h10:=hf 10 _ rfl;have h11:=hf 11 _ rfl;have XI:=hf 12 _ rfl;have hl:xs.length=13:=hlen;have Qa:Tryz.prog.cellsOf 24=1:=by kernel_rfl
 have c25:Tryz.prog.cellsOf 25=1:=by kernel_rfl
 have c26:Tryz.prog.cellsOf 26=1:=by kernel_rfl
 rw[List.getElem?_eq_getElem (by omega)] at h10 h11 XI;simp only[Qa,c25,c26] at h10 h11 XI;exact⟨⟨n,_,h10⟩,⟨n,_,h11⟩,⟨n,_,XI⟩⟩
theorem TM{fuel:Nat}{g off n c:Nat}{x:DataW H × List MemPlace}(vo:n<=c)(h:DataW.trod enc aq W 0 (fun _=>true) hd fuel 24 [.slice (some ⟨g,off,none⟩) n c]=some x) :
  ∀i,i<n->∃mn:Mn,W.cell? ⟨g,off+i*3,none⟩=some (.string mn.name)/\W.cell? ⟨g,off+i*3+1,none⟩=some (.int .i64 mn.lo)/\W.cell? ⟨g,off+i*3+2,none⟩=some (.int .i64 mn.hi):=by
 intro i hi;rcases Go.Deep.open_slice Tryz.underlying24 h with⟨h0,-⟩|⟨a,len,cap,mm,nn,D,Pl,h0,-,-,-,hm,-,hel⟩
 .cases h0
 cases h0;obtain⟨cs',hc,ht⟩:=hel i (by rw[hm];simp;omega);rw[aiO] at hc;obtain⟨x,y,z,rfl,e0,e1,e2⟩:=Vc hc;rw[oU,oU] at e0 e1 e2;obtain⟨y0,y1,n1,-,-,t0,t1⟩:=trod_struct2 Tryz.underlying79 ht;have c9:Tryz.prog.cellsOf 9=1:=by kernel_rfl
 have c23:Tryz.prog.cellsOf 23=2:=by kernel_rfl
 have c3:Tryz.prog.cellsOf 3=1:=by kernel_rfl
 simp only[c9,c23] at t0 t1;obtain⟨z0,z1,n2,-,-,u0,u1⟩:=trod_struct2 Tryz.underlying23 t1;simp only[c3] at u0 u1;obtain⟨s,hs,-⟩:=DataW.trod_string Tryz.underlying9 t0;obtain⟨lo,hlo,-⟩:=DataW.trod_int eL u0;obtain⟨hi',hhi,-⟩:=DataW.trod_int eL u1;simp at hs hlo hhi;subst hs;subst hlo;subst hhi;exact⟨⟨s,lo,hi'⟩,e0,e1,e2⟩
end
theorem QQ{W:ar}{g off n c:Nat}(vo:n<=c)(hg:g<W.heap.size)(hn:n<=20)(h:∀i,i<n->∃mn:Mn,W.cell? ⟨g,off+i*3,none⟩=some (.string mn.name)/\W.cell? ⟨g,off+i*3+1,none⟩=some (.int .i64 mn.lo)/\W.cell? ⟨g,off+i*3+2,none⟩=some (.int .i64 mn.hi)) :
  ∃ml:List Mn,ml.length=n/\Reads W (.slice (some ⟨g,off,none⟩) n c) n (fF ml):=by
 obtain⟨f,hf⟩:∃f:Nat->Mn,∀i,i<n->W.cell? ⟨g,off+i*3,none⟩=some (.string (f i).name)/\W.cell? ⟨g,off+i*3+1,none⟩=some (.int .i64 (f i).lo)/\W.cell? ⟨g,off+i*3+2,none⟩=some (.int .i64 (f i).hi):=
  ⟨fun i=>if hi:i<n then(h i hi).choose else⟨⟨#[]⟩,0,0⟩,fun i hi=>by simp only[dif_pos hi];exact(h i hi).choose_spec⟩
 refine⟨(aU n).map f,by simp,.inr ⟨g,off,c,rfl,⟨by omega,vo⟩,hg,fun j u hj=>?_⟩⟩;have MW:j<(fF ((aU n).map f)).length:=(oY.1 hj).1;rw[wA] at MW;simp at MW;have hk:j / 3<n:=by omega
 have e:j=3*(j / 3)+j % 3:=by omega
 rw[e,nQ _ _ _ (by simpa using hk) (by omega)] at hj;obtain⟨h0,h1,h2⟩:=hf (j / 3) hk;simp only[List.getElem_map,List.getElem_range] at hj;have h3:j % 3<3:=Nat.mod_lt _ (by decide);rw[show off+j=off+(j / 3)*3+j % 3 by omega]
 match j % 3,h3,hj with
 |0,_,hj=>simp at hj;subst hj;exact h0
 |1,_,hj=>simp at hj;subst hj;exact h1
 |2,_,hj=>simp at hj;subst hj;exact h2
end Go.Proofs.YtffladgmkiimjaaGreatDoor
namespace Go.Proofs.YtffladgmkiimjaaGreatDoor
open Go.RowKit Go.Lag
theorem TQ{w:ar}{B C g off L cap j:Nat}{n lo hi:Int}{b:BB}{bq aK aA:ak}(h:w.heap[B]?=some (aw (b.cells bq aK aA) 119 (0,0)))(hC:w.cell? ⟨C,0,none⟩=some (ae (some ⟨g,off,none⟩) L cap))(RF:C<w.heap.size)(hg:g<w.heap.size)(hn:w.cell? ⟨g,off+j,none⟩=some (ah ag n)){w':ar}(hb:az (w.heap.size+1) (w.alloc (aw #[ah ag ((j:Int)+1),ah ag lo,ah ag hi] 81)) w'):(w'.cell? ⟨B,0,none⟩=some (ah ag b.room)/\w'.cell? ⟨B,1,none⟩=some (ah ag b.depth)/\w'.cell? ⟨B,2,none⟩=some (ah ag b.least)/\w'.cell? ⟨B,3,none⟩=some (ah ag b.minutes)/\w'.cell? ⟨B,4,none⟩=some (ah ag b.cD)/\w'.cell? ⟨B,5,none⟩=some (ah ag b.iL)/\w'.cell? ⟨B,6,none⟩=some (ah ag b.eh)/\w'.cell? ⟨B,7,none⟩=some (ah ag b.ie)/\w'.cell? ⟨B,8,none⟩=some (ah ag b.ll)/\w'.cell? ⟨B,9,none⟩=some (ah ag b.lm)/\w'.cell? ⟨B,10,none⟩=some (ah ag b.pl)/\w'.cell? ⟨B,11,none⟩=some (ah ag b.pm)/\w'.cell? ⟨B,12,none⟩=some (bq)/\w'.cell? ⟨B,13,none⟩=some (aK)/\w'.cell? ⟨B,14,none⟩=some (aA)/\w'.cell? ⟨C,0,none⟩=some (ae (some ⟨g,off,none⟩) L cap)/\w'.cell? ⟨g,off+j,none⟩=some (ah ag n)/\w'.cell? ⟨w.heap.size,0,none⟩=some (ah ag ((j:Int)+1))/\w'.cell? ⟨w.heap.size,1,none⟩=some (ah ag lo)/\w'.cell? ⟨w.heap.size,2,none⟩=some (ah ag hi))/\az (w.heap.size+1) (w.alloc (aw #[ah ag ((j:Int)+1),ah ag lo,ah ag hi] 81)) w':=by
 have hBl:B<w.heap.size:=(ai.1 h).1;have h':w'.heap[B]?=some (aw (b.cells bq aK aA) 119 (0,0)):=by rw[hb.block B (by omega),aX _ _ _ hBl];exact h
 have hnew:w'.heap[w.heap.size]?=some (aw #[ah ag ((j:Int)+1),ah ag lo,ah ag hi] 81 (0,0)):=by rw[hb.block w.heap.size (by omega)];exact ay w _
 obtain⟨x0,x1,x2,x3,x4,x5,x6,x7,x8,x9,oh,og,o6,oA,oW⟩:=bT h';refine⟨⟨x0,x1,x2,x3,x4,x5,x6,x7,x8,x9,oh,og,o6,oA,oW,?_,?_,?_,?_,?_⟩,hb⟩
 .exact(hb.cell (p:=⟨C,0,none⟩) (by show C<_;omega)).trans ((ey _ _ _ RF).trans hC)
 .exact(hb.cell (p:=⟨g,off+j,none⟩) (by show g<_;omega)).trans ((ey _ _ _ hg).trans hn)
 .simp[dJ,hnew]
 .simp[dJ,hnew]
 simp[dJ,hnew]
theorem EA{w:ar}{B C g off L cap j:Nat}{n lo hi:Int}{b:BB}{bq aK aA:ak}(h:w.heap[B]?=some (aw (b.cells bq aK aA) 119 (0,0)))(hC:w.cell? ⟨C,0,none⟩=some (ae (some ⟨g,off,none⟩) L cap))(RF:C<w.heap.size)(hg:g<w.heap.size)(hn:w.cell? ⟨g,off+j,none⟩=some (ah ag n)){w1 w':ar}(hb:az (w.heap.size+1) (w.alloc (aw #[ah ag ((j:Int)+1),ah ag lo,ah ag hi] 81)) w1)(hb2:az w1.heap.size w1 w'):(w'.cell? ⟨B,0,none⟩=some (ah ag b.room)/\w'.cell? ⟨B,1,none⟩=some (ah ag b.depth)/\w'.cell? ⟨B,2,none⟩=some (ah ag b.least)/\w'.cell? ⟨B,3,none⟩=some (ah ag b.minutes)/\w'.cell? ⟨B,4,none⟩=some (ah ag b.cD)/\w'.cell? ⟨B,5,none⟩=some (ah ag b.iL)/\w'.cell? ⟨B,6,none⟩=some (ah ag b.eh)/\w'.cell? ⟨B,7,none⟩=some (ah ag b.ie)/\w'.cell? ⟨B,8,none⟩=some (ah ag b.ll)/\w'.cell? ⟨B,9,none⟩=some (ah ag b.lm)/\w'.cell? ⟨B,10,none⟩=some (ah ag b.pl)/\w'.cell? ⟨B,11,none⟩=some (ah ag b.pm)/\w'.cell? ⟨B,12,none⟩=some (bq)/\w'.cell? ⟨B,13,none⟩=some (aK)/\w'.cell? ⟨B,14,none⟩=some (aA)/\w'.cell? ⟨C,0,none⟩=some (ae (some ⟨g,off,none⟩) L cap)/\w'.cell? ⟨g,off+j,none⟩=some (ah ag n)/\w'.cell? ⟨w.heap.size,0,none⟩=some (ah ag ((j:Int)+1))/\w'.cell? ⟨w.heap.size,1,none⟩=some (ah ag lo)/\w'.cell? ⟨w.heap.size,2,none⟩=some (ah ag hi))/\az (w.heap.size+1) (w.alloc (aw #[ah ag ((j:Int)+1),ah ag lo,ah ag hi] 81)) w':=
 TQ h hC RF hg hn (hb.trans (hb2.mono (by have:=hb.size;simpa using this)))
theorem Jb(b:BB)(hb:b.Ok)(bq aK aA:ak)(lo hi n:Int)(Xu:0<=n/\n<=999)(B C g off L cap j:Nat)(w:ar)(h:w.heap[B]?=some (aw (b.cells bq aK aA) 119 (0,0)))(hC:w.cell? ⟨C,0,none⟩=some (ae (some ⟨g,off,none⟩) L cap))(RF:C<w.heap.size)(hg:g<w.heap.size)(hn:w.cell? ⟨g,off+j,none⟩=some (ah ag n))(hj:j<L)(hL:L<=1000) :
  bu aq 176 #[aR #[ah ag ((j:Int)+1),ah ag lo,ah ag hi],aS (some ⟨B,0,none⟩),aS (some ⟨C,0,none⟩)] w fun e w'=>e=aF (aH (!aV (b.U3 n) lo hi))/\az w.heap.size w w':=by
 have HK:=aj h;have HC:=aj hC;have HN:=aj hn;have hjj:IntKind.i64.wrap ((j:Int)+1-1)=(j:Int):=by rw[show(j:Int)+1-1=(j:Int) by omega];exact fE _ (by omega) (by omega)
 have hj1:(j:Int)<(L:Int):=by omega
 have YO:(j:Int)<=(L:Int):=by omega
 have hj0:(0:Int)<=(j:Int):=by omega
 have hjw:IntKind.i64.wrap (j:Int)=(j:Int):=fE _ (by omega) (by omega);clear h hC hn
 go_enter Tryz.func176,Tryz.ntmps176
 go_wp2
 go_region_held3 (fun w'=>(w'.cell? ⟨B,0,none⟩=some (ah ag b.room)/\w'.cell? ⟨B,1,none⟩=some (ah ag b.depth)/\w'.cell? ⟨B,2,none⟩=some (ah ag b.least)/\w'.cell? ⟨B,3,none⟩=some (ah ag b.minutes)/\w'.cell? ⟨B,4,none⟩=some (ah ag b.cD)/\w'.cell? ⟨B,5,none⟩=some (ah ag b.iL)/\w'.cell? ⟨B,6,none⟩=some (ah ag b.eh)/\w'.cell? ⟨B,7,none⟩=some (ah ag b.ie)/\w'.cell? ⟨B,8,none⟩=some (ah ag b.ll)/\w'.cell? ⟨B,9,none⟩=some (ah ag b.lm)/\w'.cell? ⟨B,10,none⟩=some (ah ag b.pl)/\w'.cell? ⟨B,11,none⟩=some (ah ag b.pm)/\w'.cell? ⟨B,12,none⟩=some (bq)/\w'.cell? ⟨B,13,none⟩=some (aK)/\w'.cell? ⟨B,14,none⟩=some (aA)/\w'.cell? ⟨C,0,none⟩=some (ae (some ⟨g,off,none⟩) L cap)/\w'.cell? ⟨g,off+j,none⟩=some (ah ag n)/\w'.cell? ⟨w.heap.size,0,none⟩=some (ah ag ((j:Int)+1))/\w'.cell? ⟨w.heap.size,1,none⟩=some (ah ag lo)/\w'.cell? ⟨w.heap.size,2,none⟩=some (ah ag hi))/\az (w.heap.size+1) (w.alloc (aw #[ah ag ((j:Int)+1),ah ag lo,ah ag hi] 81)) w')
  (first|exact TQ HK.out HC.out RF hg HN.out (au _ _).drew|exact TQ HK.out HC.out RF hg HN.out (au _ _)|exact EA HK.out HC.out RF hg HN.out (And.right (by assumption)) (by assumption)|exact EA HK.out HC.out RF hg HN.out (And.right (by assumption)) (au _ _))
  (first|(go_at_call 139;refine(JJ b hb bq aK aA n Xu _).mono ?_;rintro e w1 ⟨rfl,hb1⟩)|(go_at_call 138;refine(qE _ _ _ _).mono ?_;rintro e w1 ⟨rfl,rfl⟩))
 rename _/\_=>hS;have hBw:=hS.2;clear hS;go_wp2
 go_ret
 exact⟨rfl,((au _ _).alloc (ax _) _).trans (hBw.mono (by omega))⟩
def AX(b:BB)(used:Int)(p:Nat)(ms:List Mk):Bool:=ms.all fun m=>aV (b.U3 (b.rR used p m.minute.toNat)) m.lo m.hi
def jQ(b:BB)(used:Int)(p:Nat):List Mk->Nat->Int
 |[],_=>-1
 |m::r,k=>if aV (b.U3 (b.rR used p m.minute.toNat)) m.lo m.hi then jQ b used p r (k+1) else k
theorem Gc(b:BB)(used:Int)(p:Nat)(xs:List Mk)(k:Nat)(hk:k<xs.length):jQ b used p (xs.drop k) k=if aV (b.U3 (b.rR used p xs[k].minute.toNat)) xs[k].lo xs[k].hi then jQ b used p (xs.drop (k+1)) (k+1) else(k:Int):=by
 rw[List.drop_eq_getElem_cons hk];rfl
theorem Jc(b:BB)(used:Int)(p:Nat)(xs:List Mk):jQ b used p (xs.drop xs.length) xs.length = -1:=by simp[jQ]
theorem Jd(b:BB)(used:Int)(p:Nat):∀(xs:List Mk) (k:Nat),decide (0<=jQ b used p xs k) = !AX b used p xs:=by
 intro xs
 induction xs with
 |nil=>intro k;simp[jQ,AX]
 |cons n r ih=>
  intro k;simp only[jQ,AX,dT];split
  .rename_i h;rw[h,Bool.true_and];exact ih (k+1)
  rename_i h;simp at h;simp[h]
theorem Ge(b:BB)(hb:b.Ok)(bq aK aA:ak)(ms:List Mk)(hm:lr b ms)(used:Int)(hu:0<=used)(p:Nat)(v:ak)(B C g off L cap:Nat)(w:ar)(hv:Reads w v ms.length (dY ms))
  (l9:w.heap[B]?=some (aw (b.cells bq aK aA) 119 (0,0))) (hC:w.cell? ⟨C,0,none⟩=some (ae (some ⟨g,off,none⟩) L cap)) (RF:C<w.heap.size) (hg:g<w.heap.size) (hL:L=b.minutes.toNat) (hc:∀j u,((b.jL used p b.minutes.toNat).map (aB ag))[j]?=some u->w.cell? ⟨g,off+j,none⟩=some u) :
  bu aq 182 #[v,.func (.func 176) #[] #[aS (some ⟨B,0,none⟩),aS (some ⟨C,0,none⟩)]] w fun e w'=>e=aF (ah ag (jQ b used p ms 0))/\az w.heap.size w w':=by
 have HK:=aj l9;have HC:=aj hC;have HP:=aj hc;have HM:=aj hm;have xW:=hb.minutes;have YM:=hm.len;clear l9 hC hc hm;rcases hv with⟨rfl,hn,hx0⟩|⟨gm,om,cm,rfl,hn,Xz,hcm⟩
 .obtain rfl:ms=[]:=bf hn;clear hx0 hn
  go_enter Tryz.func182,Tryz.ntmps182
  go_wp2
  go_loopw [8] (fun i wr=>i=ah ag 0/\az w.heap.size w wr) (fun _ _=>0)
  case atStart=>exact⟨rfl,au _ _⟩
  case round=>
   obtain⟨rfl,en⟩:=hrel;go_wp2
   go_ret
   exact⟨rfl,en⟩
 have Qk:=aj hcm;clear hcm;generalize hM:ms.length=M at *;have HL:=aj hM;clear hM
 go_enter Tryz.func182,Tryz.ntmps182
 go_wp2
 go_loopw [5,8] (fun _ i wr=>∃k:Nat,k<=M/\i=ah ag k/\jQ b used p ms 0=jQ b used p (ms.drop k) k/\az w.heap.size w wr) (fun _ i _=>M-(intOf i).toNat)
 case atStart=>exact⟨0,by omega,rfl,rfl,au _ _⟩
 case round=>
  obtain⟨k,hk,rfl,lu,en⟩:=hrel;have hB1:=en.size
  by_cases hlt:k<M
  .have kD:k<ms.length:=by rw[HL.out];exact hlt
   obtain⟨y0,y1,y2⟩:=wE (w:=wr) (fun j u hj=>(en.cell (p:=⟨gm,om+j,none⟩) Xz).trans (Qk.out j u hj)) k kD;have hx:=HM.out.mem ms[k] (List.getElem_mem kD);have hst:=Gc b used p ms k kD;rw[hst] at lu;clear hst;generalize ms[k]=x at *;obtain⟨mi,lo,hi⟩:=x;obtain⟨j,rfl⟩:∃j:Nat,mi=(j:Int)+1:=⟨(mi-1).toNat,by have:=hx.1;simp at this;omega⟩
   have hjm:j<b.minutes.toNat:=by have:=hx.2.1;simp at this;omega
   have UA:=b.JX hb hu p (j+1);have hcell:=HP.out j (ah ag (b.rR used p (j+1))) (by simp[BB.jL,hjm]);have hT:=Jb b hb bq aK aA lo hi (b.rR used p (j+1)) (by omega) B C g off L cap j wr ((en.block B (ai.1 HK.out).1).trans HK.out) ((en.cell (p:=⟨C,0,none⟩) RF).trans HC.out) (by omega) (by omega) ((en.cell (p:=⟨g,off+j,none⟩) hg).trans hcell) (by omega) (by omega);rw[show(Mk.minute ⟨(j:Int)+1,lo,hi⟩).toNat=j+1 by show((j:Int)+1).toNat=j+1;omega] at lu;simp only[] at y0 y1 y2 lu;clear hx UA hcell hjm;cases hd:aV (b.U3 (b.rR used p (j+1))) lo hi
   .rw[hd] at hT;simp only[hd,Bool.false_eq_true,if_false] at lu;have HB:=aj lu;have HT:=aj hT;clear lu hT hd
    go_wp2_with (go_at_call 176;refine HT.out.mono ?_;rintro e w2 ⟨rfl,hb2⟩)
    go_ret
    exact⟨ic HB.out.symm,en.trans (hb2.mono hB1)⟩
   rw[hd] at hT;simp only[hd,if_true] at lu;have HB:=aj lu;have HT:=aj hT;clear lu hT hd
   go_wp2_with (go_at_call 176;refine HT.out.mono ?_;rintro e w2 ⟨rfl,hb2⟩)
   go_roundw
   case rel=>exact⟨k+1,by omega,by go_num,HB.out,en.trans (hb2.mono hB1)⟩
   case measure=>simp[intOf];omega
  obtain rfl:k=M:=by omega
  have e1:jQ b used p ms 0 = -1:=by rw[lu,<-HL.out];exact Jc b used p ms
  have HE:=aj e1;clear e1 lu;go_wp2
  go_ret
  exact⟨ic HE.out.symm,en⟩
theorem Bb(b:BB)(hb:b.Ok)(bq aK aA:ak)(ms:List Mk)(hm:lr b ms)(used:Int)(hu:0<=used)(p:Nat)(v:ak)(B C g off L cap:Nat)(w:ar)(hv:Reads w v ms.length (dY ms))
  (l9:w.heap[B]?=some (aw (b.cells bq aK aA) 119 (0,0))) (hC:w.cell? ⟨C,0,none⟩=some (ae (some ⟨g,off,none⟩) L cap)) (RF:C<w.heap.size) (hg:g<w.heap.size) (hL:L=b.minutes.toNat) (hc:∀j u,((b.jL used p b.minutes.toNat).map (aB ag))[j]?=some u->w.cell? ⟨g,off+j,none⟩=some u) :
  bu aq 175 #[v,.func (.func 176) #[] #[aS (some ⟨B,0,none⟩),aS (some ⟨C,0,none⟩)]] w fun e w'=>e=aF (aH (!AX b used p ms))/\az w.heap.size w w':=by
 have hI:=Ge b hb bq aK aA ms hm used hu p v B C g off L cap w hv l9 hC RF hg hL hc;have hA:=Jd b used p ms 0;generalize jQ b used p ms 0=q at *;have HI:=aj hI;have HA:=aj hA;clear hI hv l9 hC hc hA
 go_enter Tryz.func175,Tryz.ntmps175
 go_wp2_with (go_at_call 182;refine HI.out.mono ?_;rintro e w2 ⟨rfl,hb2⟩)
 go_ret
 exact⟨qw HA.out,hb2⟩
theorem Ej(b:BB)(hb:b.Ok)(bq aK aA:ak)(a:eN)(ha:a.Ok)(p:Nat)(hp:p<512)(w:ar) :
  bu aq 114 #[aR (b.cells bq aK aA),aR a.cells,ah ag p] w fun e w'=>∃g cap,∃cur:Array ak,e=aF (ae (some ⟨g,0,none⟩) b.minutes.toNat cap)/\w.heap.size<=g/\g<w'.heap.size/\b.minutes.toNat<=cap/\
   w'.heap[g]?=some (aw cur 3 (0,0))/\(∀(j:Nat) (u:ak),((b.jL (b.cD+a.used) p b.minutes.toNat).map (aB ag))[j]?=some u->cur[j]?=some u)/\az w.heap.size w w':=by
 refine(zg b hb bq aK aA a ha p hp w).mono ?_;rintro e w1 ⟨v,rfl,hown,hb1⟩;have hm:=hb.minutes;rcases hown.2 with⟨h0,h1⟩|⟨g,cap,cur,rfl,h2,h3,h4,h5,h6,h7⟩
 .have:=(h1:b.minutes.toNat=0)
  omega
 refine⟨g,cap,cur,rfl,h2,(ai.1 h3).1,h4,h3,fun j u hj=>?_,hb1⟩;rw[<-h7,List.getElem?_take] at hj;split at hj
 .simpa using hj
 cases hj
theorem aJ{W:ar}{B:Nat}{cs:Array ak}{t:aZ}(h:W.heap[B]?=some (aw cs t (0,0)))(i:Nat)(u:ak)(hi:cs[i]?=some u):W.cell? ⟨B,i,none⟩=some u:=by
 simp[dJ,h,hi]
theorem dg{W:ar}{B:Nat}{cs:Array ak}{t:aZ}(h:W.heap[B]?=some (aw cs t (0,0)))(i:Nat):W.frozen? ⟨B,i,none⟩=false:=by
 simp[World.frozen?,h]
theorem BO{W:ar}{k:Nat}{z v:ak}{t:aZ}(h:W.heap[k]?=some (aw #[z] t (0,0))):(W.setCell ⟨k,0,none⟩ v).heap[k]?=some (aw #[v] t (0,0)):=by
 obtain⟨hk,h⟩:=ai.1 h;simp[km,hk,h,BK]
structure Two(w:ar)(A:Array ak)(tA:aZ)(B:Array ak)(tB:aZ)(w':ar):Prop where
 one:w'.heap[w.heap.size]?=some (aw A tA (0,0))
 two:w'.heap[w.heap.size+1]?=some (aw B tB (0,0))
 below:az w.heap.size w w'
 size:w.heap.size+2<=w'.heap.size
theorem Two.mk'(w:ar)(A:Array ak)(tA:aZ)(B:Array ak)(tB:aZ):Two w A tA B tB ((w.alloc (aw A tA)).alloc (aw B tB)).drew:=
 ⟨(aX _ _ _ (by simp)).trans (ay w _),by have:=ay (w.alloc (aw A tA)) (aw B tB);rwa [ej] at this,
  (((au _ w).alloc (ax _) _).alloc (by simp) _).drew,by show _<=((w.alloc _).alloc _).heap.size;simp⟩
theorem Two.next{w:ar}{A:Array ak}{tA:aZ}{B:Array ak}{tB:aZ}{w1 w2:ar}(h:Two w A tA B tB w1)(hb:az w1.heap.size w1 w2):Two w A tA B tB w2:=by
 have hs:=h.size;exact⟨(hb.block _ (by omega)).trans h.one,(hb.block _ (by omega)).trans h.two,h.below.trans (hb.mono (by omega)),aO hs hb.size⟩
theorem Two.store{w:ar}{A:Array ak}{tA:aZ}{B:Array ak}{tB:aZ}{w1:ar}(h:Two w A tA B tB w1){k i:Nat}(hk:w.heap.size+2<=k)(u:ak):Two w A tA B tB (w1.setCell ⟨k,i,none⟩ u):=
 ⟨(bt _ _ _ _ (by show _≠k;omega)).trans h.one,(bt _ _ _ _ (by show _≠k;omega)).trans h.two,h.below.setCell (by show _<=k;omega) u,by simpa using h.size⟩
theorem NK(b:BB)(hb:b.Ok)(bq aK aA:ak)(ss:List Int)(hs:eU b ss)(ms:List Mk)(hm:lr b ms)(a:eN)(ha:a.Ok)(w:ar)(Yz:Reads w aK ss.length (ss.map (aB ag)))(hvm:Reads w aA ms.length (dY ms)) :
  bu aq 143 #[aR (b.cells bq aK aA),aR a.cells] w fun e w'=>e=aF (aH (AX b (b.cD+a.used) (bD ss) ms))/\az w.heap.size w w':=by
 have xW:=hb.minutes;have nW:∀s∈ss,1<=s/\s<=8:=fun s h=>by have:=hs.mem s h;omega
 have Jp:bD ss<512:=mA ss nW
 go_enter Tryz.func143,Tryz.ntmps143
 go_wp2
 refine bY (by kernel_rfl) [
 pV (aR (b.cells bq aK aA)),
  pV (aR a.cells),
  pV (pv w.heap.size 0),
  pV (pv w.heap.size 13),
  pV (aK),
  pV (ah ag (bD ss)),
  fun v ds w9=>∃g cap,∃cur:Array ak,v=ae (some ⟨g,0,none⟩) b.minutes.toNat cap/\w.heap.size+2<=g/\b.minutes.toNat<=cap/\w9.heap[g]?=some (aw cur 3 (0,0))/\∀(j:Nat) (u:ak),((b.jL (b.cD+a.used) (bD ss) b.minutes.toNat).map (aB ag))[j]?=some u->cur[j]?=some u,
  fun v ds w9=>∃k z,v=pv k 0/\w.heap.size+2<=k/\w9.heap[k]?=some (aw #[z] 25 (0,0)),
  fun v ds w9=>∃k z,ds[0]?=some (pv k 0)/\ds[1]?=some z/\w9.heap[k]?=some (aw #[z] 25 (0,0))]
  (Two w (b.cells bq aK aA) 119 a.cells 134) [(2,pv w.heap.size 0),(3,pv (w.heap.size+1) 0)] (by kernel_rfl) ?rst (fun w1 w2 h hb=>h.next hb) (Two.mk' _ _ _ _ _) ⟨rfl,rfl,trivial⟩ ?reach ?rfin
 case rst=>
  refine⟨sV,sV,sV,sV,sV,sV,?_,?_,?_,trivial⟩
  .rintro v ds w1 w2 hS ⟨g,cap,cur,h1,h2,h3,h4,h5⟩ hb;exact⟨g,cap,cur,h1,h2,h3,(hb.block g (ai.1 h4).1).trans h4,h5⟩
  .rintro v ds w1 w2 hS ⟨k,z,h1,h2,h3⟩ hb;exact⟨k,z,h1,h2,(hb.block k (ai.1 h3).1).trans h3⟩
  rintro v ds w1 w2 hS ⟨k,z,h1,h2,h3⟩ hb;exact⟨k,z,h1,h2,(hb.block k (ai.1 h3).1).trans h3⟩
 case reach=>
  refine⟨?_,?_,?_,?_,?_,?_,?_,?_,?_,trivial⟩<;>rintro ev w1 hS hc hg hf ⟨b2,b3,-⟩ hd
  .clear hd;have x0:=aJ hS.one 0 _ rfl;have x1:=aJ hS.one 1 _ rfl;have x2:=aJ hS.one 2 _ rfl;have x3:=aJ hS.one 3 _ rfl;have x4:=aJ hS.one 4 _ rfl;have x5:=aJ hS.one 5 _ rfl;have x6:=aJ hS.one 6 _ rfl;have x7:=aJ hS.one 7 _ rfl;have x8:=aJ hS.one 8 _ rfl;have x9:=aJ hS.one 9 _ rfl;have oh:=aJ hS.one 10 _ rfl;have og:=aJ hS.one 11 _ rfl;have o6:=aJ hS.one 12 _ rfl;have oA:=aJ hS.one 13 _ rfl;have oW:=aJ hS.one 14 _ rfl;exact tV
  .clear hd;have y0:=aJ hS.two 0 _ rfl;have y1:=aJ hS.two 1 _ rfl;have y2:=aJ hS.two 2 _ rfl;have y3:=aJ hS.two 3 _ rfl;exact tV
  .clear hd;exact tV
  .have d2:ev (.tmp 8)=_:=hd.1 rfl;clear hd;exact tV
  .have d3:ev (.tmp 9)=_:=hd.1 rfl;clear hd;have oA:=aJ hS.one 13 _ rfl;exact tV
  .have d4:ev (.tmp 10)=_:=hd.1 rfl;clear hd;refine yq (args:=#[aK]) (kx ss nW aK _ (Yz.below hS.below)) ?_ fun _=>rfl;go_simp
  .have d0:ev (.tmp 6)=_:=hd.1 rfl;have d1:ev (.tmp 7)=_:=hd.2.1 rfl;have d5:ev (.tmp 11)=_:=hd.2.2.1 rfl;clear hd;refine Lag.Yields.call (f:=114) (args:=#[aR (b.cells bq aK aA),aR a.cells,ah ag (bD ss)]) ?_ (Ej b hb bq aK aA a ha (bD ss) Jp _) ?_
   .go_simp
   rintro e w2 ⟨g,cap,cur,rfl,h1,h2,h3,h4,h5,h6⟩;exact⟨_,rfl,⟨g,cap,cur,rfl,aO hS.size h1,h3,h4,h5⟩,cK h6⟩
  .clear hd;refine Lag.Yields.value (v:=pv w1.heap.size 0) (w':=w1.alloc (aw #[ae none 0 0] 25)) ?_ ⟨⟨_,_,rfl,hS.size,ay _ _⟩,cK ((au _ _).alloc (ax _) _)⟩;go_simp
  obtain⟨k,z,e5,hk,hkb⟩:=hd.1 rfl;replace e5:ev (.tmp 5)=_:=e5;obtain⟨g,cap,cur,Y6,hg,hgc,hgb,qH⟩:=hd.2.1 rfl;clear hd;replace Y6:ev (.tmp 12)=_:=Y6;have Dv:g≠k:=by rintro rfl;rw[hgb] at hkb;cases hkb
  have c1:=aJ hkb 0 _ rfl;have c2:=dg hkb 0;refine Lag.Yields.skip (w':=w1.setCell ⟨k,0,none⟩ (ae (some ⟨g,0,none⟩) b.minutes.toNat cap)) ?_ ⟨⟨k,_,congrArg some e5,congrArg some Y6,BO hkb⟩,.inr ⟨hS.store hk _,?_⟩⟩
  .go_simp
  .intro j u ds hj hp
   match j,hp with
   |0,hp=>exact hp
   |1,hp=>exact hp
   |2,hp=>exact hp
   |3,hp=>exact hp
   |4,hp=>exact hp
   |5,hp=>exact hp
   |6,⟨g',cap',cur',h1,h2,h3,h4,h5⟩=>exact⟨g',cap',cur',h1,h2,h3,(bt _ _ _ _ (by rintro rfl;rw[h4] at hkb;cases hkb)).trans h4,h5⟩
   |7,⟨k',z',h1,h2,h3⟩=>
    by_cases sA:k'=k
    .subst sA;exact⟨k',_,h1,h2,BO h3⟩
    exact⟨k',z',h1,h2,(bt _ _ _ _ sA).trans h3⟩
   |8,_=>exact(hj rfl).elim
   |j+9,_=>trivial
 case rfin=>
  intro a2 w2 hR;have hS:=hR.s;have e6:∃g cap,∃cur:Array ak,(a2.tmps.getD 12 af)=ae (some ⟨g,0,none⟩) b.minutes.toNat cap/\w.heap.size+2<=g/\b.minutes.toNat<=cap/\w2.heap[g]?=some (aw cur 3 (0,0))/\∀(j:Nat) (u:ak),((b.jL (b.cD+a.used) (bD ss) b.minutes.toNat).map (aB ag))[j]?=some u->cur[j]?=some u:=hR.val 6 (by decide);have e7:∃k z,(a2.tmps.getD 5 af)=pv k 0/\w.heap.size+2<=k/\w2.heap[k]?=some (aw #[z] 25 (0,0)):=hR.val 7 (by decide);have e8:∃k z,([a2.tmps.getD 5 af,a2.tmps.getD 12 af,a2.tmps.getD 12 af,a2.tmps.getD 6 af,a2.tmps.getD 7 af,a2.tmps.getD 8 af,a2.tmps.getD 9 af,a2.tmps.getD 10 af,a2.tmps.getD 11 af,a2.tmps.getD 12 af,a2.tmps.getD 5 af]:List ak)[0]?=some (pv k 0)/\([a2.tmps.getD 5 af,a2.tmps.getD 12 af,a2.tmps.getD 12 af,a2.tmps.getD 6 af,a2.tmps.getD 7 af,a2.tmps.getD 8 af,a2.tmps.getD 9 af,a2.tmps.getD 10 af,a2.tmps.getD 11 af,a2.tmps.getD 12 af,a2.tmps.getD 5 af]:List ak)[1]?=some z/\w2.heap[k]?=some (aw #[z] 25 (0,0)):=hR.val 8 (by decide);have k0:a2.tmps.getD 0 af=aR (b.cells bq aK aA):=hR.kept (by kernel_rfl);have k1:a2.tmps.getD 1 af=aR a.cells:=hR.kept (by kernel_rfl);have k2:a2.tmps.getD 2 af=pv w.heap.size 0:=hR.kept (by kernel_rfl);have k3:a2.tmps.getD 3 af=pv (w.heap.size+1) 0:=hR.kept (by kernel_rfl);have k4:a2.tmps.getD 4 af=aH false:=hR.kept (by kernel_rfl);have ha_:a2=⟨#[a2.tmps.getD 0 af,a2.tmps.getD 1 af,a2.tmps.getD 2 af,a2.tmps.getD 3 af,a2.tmps.getD 4 af,a2.tmps.getD 5 af,a2.tmps.getD 6 af,a2.tmps.getD 7 af,a2.tmps.getD 8 af,a2.tmps.getD 9 af,a2.tmps.getD 10 af,a2.tmps.getD 11 af,a2.tmps.getD 12 af,a2.tmps.getD 13 af,a2.tmps.getD 14 af,a2.tmps.getD 15 af,a2.tmps.getD 16 af,a2.tmps.getD 17 af,a2.tmps.getD 18 af],[]⟩:=hR.act;clear hR;obtain⟨k,z,h5,hk,hkb⟩:=e7;obtain⟨g,cap,cur,XI,hg,hgc,hgb,qH⟩:=e6;obtain⟨k',z',h5',aew,hkb'⟩:=e8;have q1:k'=k:=by have:=h5.symm.trans (bj h5');simpa using this.symm
  have q2:z'=ae (some ⟨g,0,none⟩) b.minutes.toNat cap:=(bj aew).symm.trans XI;subst q1;subst q2;have adG:=aJ hS.one 14 _ rfl;have akk:=hS.one;have hk2:=aJ hkb' 0 _ rfl
  have hcon:=Bb b hb bq aK aA ms hm (b.cD+a.used) (by have:=hb.cD;have:=ha.leak;have:=ha.m0;have:=ha.m1;have:=ha.m2;simp only[eN.used];omega) (bD ss) aA w.heap.size k' g 0 b.minutes.toNat cap w2 (hvm.below hS.below) hS.one (aJ hkb' 0 _ rfl) (ai.1 hkb').1 (ai.1 hgb).1 rfl
   (fun j u hj=>aJ hgb _ _ (by rw[di];exact qH j u hj))
  have r5:=hS.below;rw[k0,k1,k2,k3,k4,h5] at ha_;clear qH hS Yz hvm h5' aew XI h5 k0 k1 k2 k3 k4 hgb hkb hkb';generalize a2.tmps.getD 6 af=t6,a2.tmps.getD 7 af=t7,a2.tmps.getD 8 af=t8,a2.tmps.getD 9 af=t9,a2.tmps.getD 10 af=t10,a2.tmps.getD 11 af=t11,a2.tmps.getD 12 af=t12,a2.tmps.getD 13 af=t13,a2.tmps.getD 14 af=t14,a2.tmps.getD 15 af=t15,a2.tmps.getD 16 af=t16,a2.tmps.getD 17 af=t17,a2.tmps.getD 18 af=t18 at ha_;subst ha_;have HC:=aj hcon;clear hcon
  go_wp2_with (first|(go_at_call 175;refine HC.out.mono ?_;clear HC;rintro e w3 ⟨rfl,hb3⟩))
  go_ret
  exact⟨by simp,r5.trans (hb3.mono r5.size)⟩
end Go.Proofs.YtffladgmkiimjaaGreatDoor
namespace Go.Lag
open Go.RowKit
structure Step(X X':Nat->Prop)(W W':ar):Prop where
 os:W'.os=W.os
 tape:W'.tape=W.tape
 output:W'.output=W.output
 size:W.heap.size<=W'.heap.size
 old:∀k,k<W.heap.size->X' k->X k
 same:∀k,k<W.heap.size->¬X k->W'.heap[k]?=W.heap[k]?
theorem Step.refl(X:Nat->Prop)(W:ar):Step X X W W:=⟨rfl,rfl,rfl,ax _,fun _ _ h=>h,fun _ _ _=>rfl⟩
theorem Step.trans{X Y Z:Nat->Prop}{A B C:ar}(h:Step X Y A B)(k:Step Y Z B C):Step X Z A C:=
 ⟨k.os.trans h.os,k.tape.trans h.tape,k.output.trans h.output,aO h.size k.size,
  fun i hi hz=>h.old i hi (k.old i (bA hi h.size) hz),
  fun i hi hx=>(k.same i (bA hi h.size) (fun hy=>hx (h.old i hi hy))).trans (h.same i hi hx)⟩
theorem Step.of_below{X:Nat->Prop}{W W':ar}(h:az W.heap.size W W'):Step X X W W':=
 ⟨h.os,h.tape,h.output,h.size,fun _ _ h=>h,fun k hk _=>h.block k hk⟩
theorem Step.below{X X':Nat->Prop}{W W':ar}(h:Step X X' W W'){n:Nat}(hn:n<=W.heap.size)(hx:∀k,k<n->¬X k):az n W W':=
 ⟨h.os,h.tape,h.output,h.size,fun k hk=>h.same k (bA hk hn) (hx k hk)⟩
def Abides{β:Type}(J:β->(Nat->Prop)->ar->Prop):Prop:=
 ∀s X W W',J s X W->(∀k,X k->W'.heap[k]?=W.heap[k]?)->J s X W'
def CR{β:Type}(J:β->(Nat->Prop)->ar->Prop):Prop:=∀s X W,J s X W->∀k,X k->k<W.heap.size
def aby{α:Type}(P:aL)(g:Nat)(la:Array ak)(encs:α->Array ak)(all:List α)(w:ar):Prop:=
 ∀(l:Nat) (J Jx:List α->(Nat->Prop)->ar->Prop) (X:Nat->Prop) (W:ar),
  az w.heap.size w W->(∀k,X k->w.heap.size<=k/\k<W.heap.size)->Abides J->Abides Jx->CR J->CR Jx->
  (∀m pre x X1 W1,J pre X1 W1->(∀k,X1 k->w.heap.size<=k)->pre++[x] <+: all->YieldAt Fence.wide m P l (encs x) W1 fun e W'=>∃X2,Step X1 X2 W1 W'/\
   ((e=aF (aH true)/\J (pre++[x]) X2 W')\/(e=aF (aH false)/\Jx (pre++[x]) X2 W')))->
  J [] X W->
  bu P g (la++#[.func (.yield l) #[] #[]]) W fun e W'=>(∃v,e=aF v)/\∃X2,Step X X2 W W'/\(J all X2 W'\/∃pre,Jx pre X2 W')
def acH{α:Type}(I:List α->(Nat->Prop)->ar->Prop)(Ix:gR->List α->(Nat->Prop)->ar->Prop)(X:Nat->Prop)(xs:List α)(W:ar):Exit->kH->ar->Prop
 |.normal,_,W'=>∃X2,Step X X2 W W'/\I xs X2 W'
 |.ret,_,W'=>∃X2,Step X X2 W W'/\Ix .ret xs X2 W'
 |.exit id,_,W'=>∃X2,Step X X2 W W'/\Ix (.exit id) xs X2 W'
 |.goto t,_,W'=>∃X2,Step X X2 W W'/\Ix (.goto t) xs X2 W'
 |.panic _,_,_=>False
 |.outgrown,_,_=>False
theorem sH{α:Type}{P:aL}{n:Nat}{g:bL}{ps:Array kG}{assign body:gR}{Q:Exit->kH->ar->Prop}{a:kH}{w:ar}
  {gf:Nat} {la:Array ak} (hg:a.eval g=.func (.func gf) la #[]) (eg:∀args w,(callFunc gf args).run P w=.ok (.enter gf args) w)
  {encs:α->Array ak} {all:List α} {w0:ar} (hseq:aby P gf la encs all w0) (hb0:az w0.heap.size w0 w) (Xq:∀x,(encs x).size=ps.size)
  (I:List α->(Nat->Prop)->ar->Prop) (Ix:gR->List α->(Nat->Prop)->ar->Prop) (hI:Abides I) (hIx:∀c,Abides (Ix c)) (hIb:CR I) (ah3:∀c,CR (Ix c))
  (X:Nat->Prop) (hX:∀k,X k->w0.heap.size<=k/\k<w.heap.size) (h0:I [] X w)
  (A:List α->α->kH->(Nat->Prop)->ar->Prop) (hA:∀pre x,Abides (A pre x))
  (XG:∀(l m:Nat) (pre:List α) (x:α) (X1:Nat->Prop) (W:ar) (K:kH->ar->Prop),I pre X1 W->(∀k,X1 k->w0.heap.size<=k)->pre++[x] <+: all->(∀a' X2 W',Step X1 X2 W W'->A pre x a' X2 W'->K a' W')->
   assign.wpIn (Fence.wide.inRound l) m P (Exit.then K (fun _ _ _=>False)) { tmps:=(ps.zip (encs x)).foldl (fun t (p,v)=>t.setIfInBounds p v) a.tmps,defers:=[] } W)
  (aed:∀(l m:Nat) (pre:List α) (x:α) (a':kH) (X1:Nat->Prop) (W:ar),A pre x a' X1 W->(∀k,X1 k->w0.heap.size<=k)->pre++[x] <+: all->body.wpIn (Fence.wide.inRound l) m P (acH I Ix X1 (pre++[x]) W) a' W)
  (hdone:∀(D:Nat) (X2:Nat->Prop) (W:ar),w.heap.size<=D->¬X2 D->Step X X2 w W->I all X2 W->W.heap[D]?=some (.deferred (some []))->Q .normal { a with defers:={ target:=.collected D,args:=#[] }::a.defers } W)
  (Cn:∀(D:Nat) (c:gR) (pre:List α) (X2:Nat->Prop) (W:ar),w.heap.size<=D->¬X2 D->Step X X2 w W->Ix c pre X2 W->W.heap[D]?=some (.deferred (some []))->c.wpIn Fence.wide n P Q { a with defers:={ target:=.collected D,args:=#[] }::a.defers } W) :
  (Code.rangeFunc g ps assign body).wpIn Fence.wide n P Q a w:=by
 refine wpIn_rangeFunc ?_;intro fn hfn;rw[show Fence.wide.round=none from rfl];obtain⟨rec,Jo⟩:∃rec:LoopState->Option gR->Loop,rec=fun st pe=>{ state:=st,pending:=pe,fn,tmps:=a.tmps,params:=ps,assign,body,defers:=w.heap.size }:=⟨_,rfl⟩
 obtain⟨W1,hW1⟩:∃W1,(w.alloc (.deferred (some []))).alloc (.loop (rec .ready none))=W1:=⟨_,rfl⟩
 have hL1:W1.heap[w.heap.size+1]?=some (.loop (rec .ready none)):=by
  rw[<-hW1];have:=ay (w.alloc (.deferred (some []))) (.loop (rec .ready none));rwa [ej] at this
 have hK1:W1.heap[w.heap.size]?=some (.deferred (some [])):=by
  rw[<-hW1];exact(aX _ _ _ (by simp)).trans (ay w _)
 have uS:az w.heap.size w W1:=by rw[<-hW1];exact((au _ w).alloc (ax _) _).alloc (by simp) _
 have hs1:W1.heap.size=w.heap.size+2:=by rw[<-hW1];simp
 have hI1:I [] X W1:=hI _ _ _ _ h0 (fun k hk=>uS.block k (hX k hk).2);have hb1:az w0.heap.size w0 W1:=hb0.trans (uS.mono hb0.size)
 refine⟨w.heap.size+1,[{ target:=.collected w.heap.size,args:=#[] }],W1,{ target:=.fn (.func gf) #[],args:=la++#[.func (.yield (w.heap.size+1)) #[] #[]] },W1,gf,
  la++#[.func (.yield (w.heap.size+1)) #[] #[]],W1,?_,?_,?_,?_,(fun h=>by cases h),?_⟩
 .rw[<-hW1,Jo];exact run_enterLoop_outer _ _ _ _ _
 .simp only[resolve,hg];simp[go_sem]
 .intro f' hf';trivial
 .simp[invoke,go_sem,eg]
 rw[callsIn_wide]
 refine(hseq (w.heap.size+1)
  (fun pre Y W=>∃Z:Nat->Prop,Y=(fun k=>Z k\/k=w.heap.size\/k=w.heap.size+1)/\(∀k,Z k->k≠w.heap.size/\k≠w.heap.size+1)/\I pre Z W/\W.heap[w.heap.size+1]?=some (.loop (rec .ready none))/\W.heap[w.heap.size]?=some (.deferred (some [])))
  (fun pre Y W=>∃(Z:Nat->Prop) (c:gR),Y=(fun k=>Z k\/k=w.heap.size\/k=w.heap.size+1)/\(∀k,Z k->k≠w.heap.size/\k≠w.heap.size+1)/\Ix c pre Z W/\W.heap[w.heap.size+1]?=some (.loop (rec .done (some c)))/\W.heap[w.heap.size]?=some (.deferred (some [])))
  (fun k=>X k\/k=w.heap.size\/k=w.heap.size+1) W1 hb1 ?_ ?_ ?_ ?_ ?_ ?_ ?_).mono ?_
 .rintro k (hk|rfl|rfl)
  .have:=hX k hk;exact⟨this.1,by omega⟩
  .have:=hb0.size;exact⟨this,by omega⟩
  have:=hb0.size;exact⟨by omega,by omega⟩
 .rintro pre Y W W' ⟨Z,rfl,hz,hi,hl,hk⟩ hs;exact⟨Z,rfl,hz,hI _ _ _ _ hi (fun k h=>hs k (cK h)),(hs _ (.inr (.inr rfl))).trans hl,(hs _ (.inr (cK rfl))).trans hk⟩
 .rintro pre Y W W' ⟨Z,c,rfl,hz,hi,hl,hk⟩ hs;exact⟨Z,c,rfl,hz,hIx _ _ _ _ _ hi (fun k h=>hs k (cK h)),(hs _ (.inr (.inr rfl))).trans hl,(hs _ (.inr (cK rfl))).trans hk⟩
 .rintro pre Y W ⟨Z,rfl,hz,hi,hl,hk⟩ k (qZ|rfl|rfl)
  .exact hIb _ _ _ hi k qZ
  .exact(ai.1 hk).1
  exact(ai.1 hl).1
 .rintro pre Y W ⟨Z,c,rfl,hz,hi,hl,hk⟩ k (qZ|rfl|rfl)
  .exact ah3 _ _ _ _ hi k qZ
  .exact(ai.1 hk).1
  exact(ai.1 hl).1
 .rintro m pre x Y W ⟨Z,rfl,hz,hi,hl,hk⟩ hge hpre;have aas:∀k,Z k->w0.heap.size<=k:=fun k h=>hge k (cK h);have hlt:w.heap.size+1<W.heap.size:=(ai.1 hl).1;have hy:=run_yield (P:=P) (args:=encs x) hl (by rw[Jo];exact Xq x);rw[Jo] at hy;refine⟨fn,_,assign,body,hy,roundIn_of_wpIn hfn (XG _ m pre x Z W _ hi aas hpre ?_)⟩;intro a' Z2 W2 hst ha;have hz1:∀k,Z k->k≠w.heap.size/\k≠w.heap.size+1:=hz;have hl1:W2.heap[w.heap.size+1]?=some (.loop (rec .ready none)):=(hst.same _ hlt (fun h=>(hz _ h).2 rfl)).trans hl;have qG:W2.heap[w.heap.size]?=some (.deferred (some [])):=(hst.same _ (by omega) (fun h=>(hz _ h).1 rfl)).trans hk;have hlt2:w.heap.size+1<W2.heap.size:=(ai.1 hl1).1;have hz2:∀k,Z2 k->k≠w.heap.size/\k≠w.heap.size+1:=fun k h=>⟨fun e=>(hz k (hst.old k (by omega) h)).1 e,fun e=>(hz k (hst.old k (by omega) h)).2 e⟩
  refine⟨_,run_beginRound hl1 (by rw[Jo]),?_⟩;obtain⟨W3,hW3⟩:∃W3,W2.putObj (w.heap.size+1) (.loop { rec .ready none with state:=.busy })=W3:=⟨_,rfl⟩
  have hl3:W3.heap[w.heap.size+1]?=some (.loop { rec .ready none with state:=.busy }):=by rw[<-hW3];exact World.putObj_heap_same hlt2
  have hk3:W3.heap[w.heap.size]?=some (.deferred (some [])):=by rw[<-hW3];exact(dG (by omega)).trans qG
  have hp3:∀k,k≠w.heap.size+1->W3.heap[k]?=W2.heap[k]?:=fun k h=>by rw[<-hW3];exact dG (by omega)
  have h3s:W3.heap.size=W2.heap.size:=by rw[<-hW3];simp
  have h3o:W3.os=W2.os/\W3.tape=W2.tape/\W3.output=W2.output:=by rw[<-hW3];exact⟨rfl,rfl,rfl⟩
  have ahD:∀k,Z2 k->w0.heap.size<=k:=fun k h=>by
   by_cases hc:k<W.heap.size
   .exact aas k (hst.old k hc h)
   have:=hb0.size;omega
  have ha3:=hA _ _ _ _ _ W3 ha (fun k h=>hp3 k (hz2 k h).2);simp only[hW3];refine wpIn_mono (aed _ m pre x a' Z2 W3 ha3 ahD hpre) ?_
  have fin:∀(jump:Option gR) (Z4:Nat->Prop) (W4:ar),Step Z2 Z4 W3 W4->
    (Instr.endRound (w.heap.size+1) jump).run P W4=.ok (aH jump.isNone) (W4.putObj (w.heap.size+1) (.loop (rec (if jump.isNone then .ready else .done) jump)))/\
    (∀k,Z4 k->k≠w.heap.size/\k≠w.heap.size+1)/\
    (∀k,Z4 k->(W4.putObj (w.heap.size+1) (.loop (rec (if jump.isNone then .ready else .done) jump))).heap[k]?=W4.heap[k]?)/\
    (W4.putObj (w.heap.size+1) (.loop (rec (if jump.isNone then .ready else .done) jump))).heap[w.heap.size+1]?=some (.loop (rec (if jump.isNone then .ready else .done) jump))/\
    (W4.putObj (w.heap.size+1) (.loop (rec (if jump.isNone then .ready else .done) jump))).heap[w.heap.size]?=some (.deferred (some []))/\
    Step (fun k=>Z k\/k=w.heap.size\/k=w.heap.size+1) (fun k=>Z4 k\/k=w.heap.size\/k=w.heap.size+1) W (W4.putObj (w.heap.size+1) (.loop (rec (if jump.isNone then .ready else .done) jump))):=fun jump Z4 W4 h4=>by
   have hl4:W4.heap[w.heap.size+1]?=some (.loop { rec .ready none with state:=.busy }):=(h4.same _ (by omega) (fun h=>(hz2 _ h).2 rfl)).trans hl3;have hk4:W4.heap[w.heap.size]?=some (.deferred (some [])):=(h4.same _ (by omega) (fun h=>(hz2 _ h).1 rfl)).trans hk3;have VK:∀k,Z4 k->k≠w.heap.size/\k≠w.heap.size+1:=fun k h=>⟨fun e=>(hz2 k (h4.old k (by omega) h)).1 e,fun e=>(hz2 k (h4.old k (by omega) h)).2 e⟩
   have:=run_endRound (P:=P) jump hl4;have h4s:=h4.size;have nW:=hst.size
   refine⟨by rw[Jo] at this ⊢;exact this,VK,fun k h=>dG (fun e=>(VK k h).2 (by omega)),World.putObj_heap_same (ai.1 hl4).1,(dG (by omega)).trans hk4,
    ⟨h4.os.trans (h3o.1.trans hst.os),h4.tape.trans (h3o.2.1.trans hst.tape),h4.output.trans (h3o.2.2.trans hst.output),by simp;omega,?_,?_⟩⟩
   .rintro k hk (h|h)
    .exact cK (hst.old k hk (h4.old k (by omega) h))
    exact .inr h
   intro k hk hn;have uE:¬Z k:=fun h=>hn (cK h);have yK:k≠w.heap.size+1:=fun h=>hn (.inr (.inr h));have hn3:¬Z2 k:=fun h=>uE (hst.old k hk h);exact(dG (by omega)).trans ((h4.same k (by omega) hn3).trans ((hp3 k yK).trans (hst.same k hk uE)))
  rintro e a4 W4 hp;cases e with
  |normal=>
   obtain⟨Z4,h4,hi4⟩:=hp;obtain⟨hr,VK,EG,hl5,hk5,hstep⟩:=fin none Z4 W4 h4;exact⟨_,_,hr,_,hstep,cK ⟨rfl,Z4,rfl,VK,hI _ _ _ _ hi4 EG,hl5,hk5⟩⟩
  |ret=>
   obtain⟨Z4,h4,hi4⟩:=hp;obtain⟨hr,VK,EG,hl5,hk5,hstep⟩:=fin (some .ret) Z4 W4 h4;exact⟨_,_,hr,_,hstep,.inr ⟨rfl,Z4,.ret,rfl,VK,hIx _ _ _ _ _ hi4 EG,hl5,hk5⟩⟩
  |exit id=>
   obtain⟨Z4,h4,hi4⟩:=hp;obtain⟨hr,VK,EG,hl5,hk5,hstep⟩:=fin (some (.exit id)) Z4 W4 h4;exact⟨_,_,hr,_,hstep,.inr ⟨rfl,Z4,.exit id,rfl,VK,hIx _ _ _ _ _ hi4 EG,hl5,hk5⟩⟩
  |goto t=>
   obtain⟨Z4,h4,hi4⟩:=hp;obtain⟨hr,VK,EG,hl5,hk5,hstep⟩:=fin (some (.goto t)) Z4 W4 h4;exact⟨_,_,hr,_,hstep,.inr ⟨rfl,Z4,.goto t,rfl,VK,hIx _ _ _ _ _ hi4 EG,hl5,hk5⟩⟩
  |panic ch=>exact hp.elim
  |outgrown=>exact hp.elim
 .exact⟨X,rfl,fun k h=>by have:=(hX k h).2;omega,hI1,hL1,hK1⟩
 have key:∀(Z:Nat->Prop) (W2:ar) (o:Obj),Step (fun k=>X k\/k=w.heap.size\/k=w.heap.size+1) (fun k=>Z k\/k=w.heap.size\/k=w.heap.size+1) W1 W2->Step X Z w (W2.putObj (w.heap.size+1) o):=fun Z W2 o h=>
  ⟨h.os.trans uS.os,h.tape.trans uS.tape,h.output.trans uS.output,by have:=h.size;simp;omega,fun k hk hz=>by
   rcases h.old k (by omega) (cK hz) with h|h|h
   .exact h
   .omega
   .omega,fun k hk hn=>(dG (by omega)).trans ((h.same k (by omega) (fun h=>by
   rcases h with h|h|h
   .exact hn h
   .omega
   omega)).trans (uS.block k hk))⟩
 rintro e W2 ⟨⟨v,rfl⟩,Y,hstep,(⟨Z,rfl,hz,hi,hl,hk⟩|⟨pre,Z,c,rfl,hz,hi,hl,hk⟩)⟩
 .exact⟨none,_,by have:=run_endLoop (P:=P) hl (by rw[Jo];simp);rw[Jo] at this;exact this,hdone _ Z _ (ax _) (fun h=>(hz _ h).1 rfl) (key Z W2 _ hstep) (hI _ _ _ _ hi (fun k h=>dG (fun e=>(hz k h).2 (by omega)))) ((dG (by omega)).trans hk)⟩
 exact⟨some c,_,by have:=run_endLoop (P:=P) hl (by rw[Jo];simp);rw[Jo] at this;exact this,Cn _ c pre Z _ (ax _) (fun h=>(hz _ h).1 rfl) (key Z W2 _ hstep) (hIx _ _ _ _ _ hi (fun k h=>dG (fun e=>(hz k h).2 (by omega)))) ((dG (by omega)).trans hk)⟩
end Go.Lag
namespace Go.Proofs.YtffladgmkiimjaaGreatDoor
open Go.RowKit Go.Lag
attribute [local go_sem] Oper.semAt_some
def eN.put(a:eN)(lM:Nat)(n:Int):eN:=
 match lM with
 |0=>{ a with m0:=n }
 |1=>{ a with m1:=n }
 |_=>{ a with m2:=n }
def gG(lo hi:Int):List Int:=(aU (hi+1-lo).toNat).map fun(i:Nat)=>lo+i
def leaves(ok:eN->Bool):List Mn->Nat->eN->List eN
 |[],_,a=>if ok a then[a] else[]
 |m::r,lM,a=>(gG m.lo m.hi).flatMap fun n=>leaves ok r (lM+1) (a.put lM n)
def jP(b:BB)(ss:List Int)(ms:List Mk)(a:eN):Bool:=AX b (b.cD+a.used) (bD ss) ms
def bw(b:BB)(ml:List Mn)(ss:List Int)(ms:List Mk):List eN:=(gG b.ll b.lm).flatMap fun n=>leaves (jP b ss ms) ml 0 ⟨n,0,0,0⟩
theorem eN.Nu{a:eN}(h:a.Ok)(lM:Nat){n:Int}(h1:0<=n)(h2:n<=99):(a.put lM n).Ok:=by
 obtain⟨p,q,r,s⟩:=h
 match lM with
 |0=>exact⟨p,⟨h1,h2⟩,r,s⟩
 |1=>exact⟨p,q,⟨h1,h2⟩,s⟩
 |k+2=>exact⟨p,q,r,⟨h1,h2⟩⟩
theorem eN.Wv(a:eN)(lM:Nat)(n z:Int):(a.put lM z).put lM n=a.put lM n:=by
 match lM with
 |0=>rfl
 |1=>rfl
 |k+2=>rfl
theorem Ir{X X':Nat->Prop}{W W':ar}(h:Step X X' W W'){l i:Nat}(u:ak)(hl:W.heap.size<=l):Step X X' W (W'.setCell ⟨l,i,none⟩ u):=
 ⟨h.os,h.tape,h.output,by simpa using h.size,h.old,fun k hk hx=>(bt _ _ _ _ (by show k≠l;omega)).trans (h.same k hk hx)⟩
structure GI(b:BB)(bq aK aA:ak)(w0:ar)(bk yk nk l:Nat)(X:Nat->Prop)(W:ar):Prop where
 below:az w0.heap.size w0 W
 l9:W.heap[bk]?=some (aw (b.cells bq aK aA) 119 (0,0))
 hyk:W.heap[yk]?=some (aw #[.func (.yield l) #[] #[]] 159 (0,0))
 hnk:W.heap[nk]?=some (aw #[.func (.func 169) #[] #[pv bk 0,pv yk 0,pv nk 0]] 181 (0,0))
 xb:¬X bk
 xy:¬X yk
 xn:¬X nk
 ge:∀k,X k->w0.heap.size<=k
theorem GI.step{b:BB}{bq aK aA:ak}{w0:ar}{bk yk nk l:Nat}{X X2:Nat->Prop}{W W':ar}(h:GI b bq aK aA w0 bk yk nk l X W)(hs:Step X X2 W W'):GI b bq aK aA w0 bk yk nk l X2 W':=by
 have l1:=(ai.1 h.l9).1;have l2:=(ai.1 h.hyk).1;have l3:=(ai.1 h.hnk).1;refine⟨h.below.trans (hs.below h.below.size fun k hk hx=>?_),(hs.same _ l1 h.xb).trans h.l9,(hs.same _ l2 h.xy).trans h.hyk,(hs.same _ l3 h.xn).trans h.hnk,fun hx=>h.xb (hs.old _ l1 hx),fun hx=>h.xy (hs.old _ l2 hx),fun hx=>h.xn (hs.old _ l3 hx),fun k hx=>?_⟩
 .have:=h.ge k hx;omega
 by_cases hk:k<W.heap.size
 .exact h.ge k (hs.old k hk hx)
 have:=h.below.size;omega
theorem aW{w:ar}{v:ak}{n:Nat}{xs:List ak}(h:Reads w v n xs):∃p cap,v=ae p n cap/\n<=4294967296:=by
 rcases h with⟨rfl,rfl,_⟩|⟨g,off,cap,rfl,h,_⟩
 .exact⟨_,_,rfl,by omega⟩
 exact⟨_,_,rfl,h.1⟩
def Vn{α:Type}(P:aL)(l:Nat)(encs:α->Array ak)(n0:Nat)(all:List α)(J Jx:List α->(Nat->Prop)->ar->Prop):Prop:=
 ∀m pre x X1 W1,J pre X1 W1->(∀k,X1 k->n0<=k)->pre++[x] <+: all->YieldAt Fence.wide m P l (encs x) W1 fun e W'=>∃X2,Step X1 X2 W1 W'/\
   ((e=aF (aH true)/\J (pre++[x]) X2 W')\/(e=aF (aH false)/\Jx (pre++[x]) X2 W'))
abbrev RV(a:eN):Array Value:=#[aR a.cells]
def Qh(J Jx:List eN->(Nat->Prop)->ar->Prop)(X:Nat->Prop)(W:ar)(pre ys:List eN)(e:Ending)(W':ar):Prop:=
 ∃X2,Step X X2 W W'/\((e=aF (aH true)/\J (pre++ys) X2 W')\/(e=aF (aH false)/\∃q,Jx q X2 W'))
theorem Rb(b:BB)(bq aK aA:ak)(ml:List Mn)(ss:List Int)(ms:List Mk)(w0:ar)(hB:cU b bq aK aA ml ss ms w0)(bk yk nk l:Nat)(all:List eN)(J Jx:List eN->(Nat->Prop)->ar->Prop)(hJ:Lag.Abides J)(VW:Lag.CR J)
  (hY:Vn aq l RV w0.heap.size all J Jx) (a:eN) (ha:a.Ok) (pre:List eN) (X:Nat->Prop) (W:ar) (hE:GI b bq aK aA w0 bk yk nk l X W) (hj:J pre X W) (hp:pre++leaves (jP b ss ms) [] ml.length a <+: all) :
  bu aq 169 #[aR a.cells,ah ag ml.length,pv bk 0,pv yk 0,pv nk 0] W (Qh J Jx X W pre (leaves (jP b ss ms) [] ml.length a)):=by
 have hx:=VW _ _ _ hj;have b1:az W.heap.size W (W.alloc (aw a.cells 134)):=(au _ _).alloc (ax _) _;have VX:=hE.step (Step.of_below b1);have hB1:=hB.below VX.below;obtain⟨x0,x1,x2,x3,x4,x5,x6,x7,x8,x9,oh,og,o6,oA,oW⟩:=bT VX.l9;have y0:=aJ VX.hyk 0 _ rfl;obtain⟨p,cap,rfl,hlen⟩:=aW hB.rm;have hk:(W.alloc (aw a.cells 134)).heap[W.heap.size]?=some (aw a.cells 134 (0,0)):=ay W _;have z0:=aJ hk 0 _ rfl;have z1:=aJ hk 1 _ rfl;have z2:=aJ hk 2 _ rfl;have z3:=aJ hk 3 _ rfl;have hmk:=NK b hB.ok (ae p ml.length cap) aK aA ss hB.mK ms hB.lg a ha _ hB1.rs hB1.rk;have HM:=aj hmk;have HE:=aj VX;have HB:=aj hB1;have HY:=aj hY;have HJ:=aj hJ;clear hmk hE hB VX hB1 hk hY hJ;generalize hL:ml.length=L at *;clear hL;have hlv:leaves (jP b ss ms) [] L a=if jP b ss ms a then[a] else[]:=rfl
 rw[hlv] at hp ⊢;clear hlv
 have HJ2:Hid (∀W',az (W.alloc (aw a.cells 134)).heap.size (W.alloc (aw a.cells 134)) W'->J pre X W'/\Step X X W W'):=aj fun W' hb'=>by
  have tN:az W.heap.size W W':=b1.trans (hb'.mono b1.size);exact⟨HJ.out _ _ _ _ hj fun k hk=>tN.block k (hx k hk),Step.of_below tN⟩
 clear hj hx HJ
 by_cases cY:jP b ss ms a=true
 .have HK:=aj (ay W (aw a.cells 134));have hmb:AX b (b.cD+a.used) (bD ss) ms=true:=cY;rw[hmb] at HM;rw[if_pos cY] at hp ⊢;have HP:=aj hp;clear hp hmb cY b1;refine callsIn_wide (n:=0).1 (callsIn_of_wp Tryz.func169 rfl trivial ?_ rfl);simp only[Tryz.ntmps169,jG,iC,oy,Dk,Dj,j8,j7,jH,iw,kn,gP]
  gi_wp2_with (first
   |(refine⟨trivial,rfl,?_⟩;gi_at_call 143;rw[callsIn_wide];refine HM.out.mono ?_;clear HM;rintro e W1 ⟨rfl,hb1⟩
     have SH:=HE.out.step (Step.of_below hb1);have u0:=aJ SH.hyk 0 _ rfl;have qG:=(hb1.block W.heap.size (by simp)).trans HK.out;have v0:=aJ qG 0 _ rfl;have v1:=aJ qG 1 _ rfl;have v2:=aJ qG 2 _ rfl;have v3:=aJ qG 3 _ rfl;have hjs:=HJ2.out W1 hb1;have HS:=aj hjs.2;obtain⟨fn,tmps,assign,body,hy,hR⟩:=HY.out 0 pre a X W1 hjs.1 SH.ge HP.out
     clear SH qG hjs hb1)
   |(refine⟨rfl,?_⟩;refine hR.mono ?_;clear hR;rintro e W2 ⟨X2,hs2,(⟨rfl,YO⟩|⟨rfl,YO⟩)⟩))
  .go_ret
   exact⟨X2,HS.out.trans hs2,cK ⟨rfl,YO⟩⟩
  go_ret
  exact⟨X2,HS.out.trans hs2,.inr ⟨rfl,_,YO⟩⟩
 have HK:=aj (ay W (aw a.cells 134));have hmb:AX b (b.cD+a.used) (bD ss) ms=false:=by simpa [jP] using cY
 rw[hmb] at HM;rw[if_neg cY] at hp ⊢;clear hp hmb cY b1 HY;refine callsIn_wide (n:=0).1 (callsIn_of_wp Tryz.func169 rfl trivial ?_ rfl);simp only[Tryz.ntmps169,jG,iC,oy,Dk,Dj,j8,j7,jH,iw,kn,gP]
 gi_wp2_with (first
  |(refine⟨trivial,rfl,?_⟩;gi_at_call 143;rw[callsIn_wide];refine HM.out.mono ?_;clear HM;rintro e W1 ⟨rfl,hb1⟩
    have SH:=HE.out.step (Step.of_below hb1);have u0:=aJ SH.hyk 0 _ rfl;have qG:=(hb1.block W.heap.size (by simp)).trans HK.out;have v0:=aJ qG 0 _ rfl;have v1:=aJ qG 1 _ rfl;have v2:=aJ qG 2 _ rfl;have v3:=aJ qG 3 _ rfl;have hjs:=HJ2.out W1 hb1;have HS:=aj hjs
    clear SH qG hjs hb1))
 refine⟨fun _ _=>trivial,?_⟩
 gi_wp2
 go_ret
 exact⟨X,HS.out.2,cK ⟨rfl,by rw[List.append_nil];exact HS.out.1⟩⟩
theorem Qb{w:ar}{B:Nat}{a:eN}(lM:Nat)(hm:lM<3)(n:Int)(h:w.heap[B]?=some (aw a.cells 134 (0,0))):(w.setCell ⟨B,1+lM,none⟩ (ah ag n)).heap[B]?=some (aw (a.put lM n).cells 134 (0,0)):=by
 obtain⟨hk,h⟩:=ai.1 h
 match lM,hm with
 |0,_=>simp[km,hk,h,BK,eN.put]
 |1,_=>simp[km,hk,h,BK,eN.put]
 |2,_=>simp[km,hk,h,BK,eN.put]
theorem Eh{lo hi:Int}{k:Nat}(h:lo+k<=hi):k<(gG lo hi).length/\∀h',(gG lo hi)[k]'h'=lo+k:=by
 constructor
 .simp[gG];omega
 intro h';simp[gG]
theorem Hw{α β:Type}(l:List α)(f:α->List β){k:Nat}(h:k<l.length):(l.take (k+1)).flatMap f=(l.take k).flatMap f++f l[k]:=by
 rw[List.take_succ_eq_append_getElem h,List.flatMap_append];simp
theorem Ra(b:BB)(bq aK aA:ak)(ml:List Mn)(ss:List Int)(ms:List Mk)(w0:ar)(hB:cU b bq aK aA ml ss ms w0)(bk yk nk l:Nat)(all:List eN)(J Jx:List eN->(Nat->Prop)->ar->Prop)(hJ:Lag.Abides J)(VW:Lag.CR J)
  (fr:List Mn) (m:Mn) (r:List Mn) (Uh:ml=fr++m::r)
  (ih:∀(a:eN),a.Ok->∀(pre:List eN) (X:Nat->Prop) (W:ar),GI b bq aK aA w0 bk yk nk l X W->J pre X W->pre++leaves (jP b ss ms) r (fr.length+1) a <+: all->
   bu aq 169 #[aR a.cells,ah ag ((fr.length+1:Nat):Int),pv bk 0,pv yk 0,pv nk 0] W (Qh J Jx X W pre (leaves (jP b ss ms) r (fr.length+1) a)))
  (a:eN) (ha:a.Ok) (pre:List eN) (X:Nat->Prop) (W:ar) (hE:GI b bq aK aA w0 bk yk nk l X W) (hj:J pre X W) (hp:pre++leaves (jP b ss ms) (m::r) fr.length a <+: all) :
  bu aq 169 #[aR a.cells,ah ag fr.length,pv bk 0,pv yk 0,pv nk 0] W (Qh J Jx X W pre (leaves (jP b ss ms) (m::r) fr.length a)):=by
 have hx:=VW _ _ _ hj;have hlen:fr.length<ml.length:=by rw[Uh];simp
 have N2:fr.length<3:=by have:=hB.gZ.len;omega
 have hmk:ml[fr.length]=m:=by simp[Uh]
 have Lv:=hB.gZ.mem m (by rw[Uh];simp)
 obtain⟨g,off,cap,rfl,ako,hg,hcm⟩:∃g off cap,bq=ae (some ⟨g,off,none⟩) ml.length cap/\(ml.length<=4294967296/\ml.length<=cap)/\g<w0.heap.size/\∀j u,(fF ml)[j]?=some u->w0.cell? ⟨g,off+j,none⟩=some u:=by
  rcases hB.rm with⟨_,h,_⟩|h
  .omega
  exact h
 have hcell:=Dt hcm fr.length hlen;rw[hmk] at hcell
 have HC:Hid (∀W',az w0.heap.size w0 W'->W'.cell? ⟨g,off+fr.length*3+1,none⟩=some (ah ag m.lo)/\W'.cell? ⟨g,off+fr.length*3+2,none⟩=some (ah ag m.hi)):=
  aj fun W' hb=>⟨(hb.cell (p:=⟨g,_,none⟩) hg).trans hcell.2.1,(hb.cell (p:=⟨g,_,none⟩) hg).trans hcell.2.2⟩
 clear hcell hcm;have hl3:=hB.gZ.len;have HB:=aj hB;have HI:=aj ih;have HP:=aj hp;have HX:=aj hx;have HJ:=aj hJ;have hlv:leaves (jP b ss ms) (m::r) fr.length a=(gG m.lo m.hi).flatMap fun n=>leaves (jP b ss ms) r (fr.length+1) (a.put fr.length n):=rfl;have b1:az W.heap.size W (W.alloc (aw a.cells 134)):=(au _ _).alloc (ax _) _;have VX:=hE.step (Step.of_below b1);have hj1:J pre X (W.alloc (aw a.cells 134)):=hJ _ _ _ _ hj fun k hk=>b1.block k (hx k hk);obtain⟨x0,x1,x2,x3,x4,x5,x6,x7,x8,x9,oh,og,o6,oA,oW⟩:=bT VX.l9;obtain⟨c1,c2⟩:=HC.out _ VX.below;have hXa:¬X W.heap.size:=fun h=>absurd (hx _ h) (by omega);have HE1:=aj VX;have HE:=aj hE;have HJ1:=aj hj1;have HXa:=aj hXa;clear hB ih hp hx hJ hE VX hj1 hXa hj;clear hmk Uh;generalize ml.length=L at *;generalize fr.length=lM at *;generalize jP b ss ms=ok at *;refine callsIn_wide (n:=0).1 (callsIn_of_wp Tryz.func169 rfl trivial ?_ rfl);simp only[Tryz.ntmps169,jG,iC,oy,Dk,Dj,j8,j7,jH,iw,kn,gP];have i1:(lM:Int)<(L:Int):=by omega
 have i2:(0:Int)<=(lM:Int):=by omega
 have i3:((lM:Int)==(L:Int))=false:=by simp;omega
 gi_wp2
 have w1:IntKind.i64.wrap (lM+1)=((lM+1:Nat):Int):=by rw[fE _ (by omega) (by omega)];omega
 gi_loopw [8] (fun v wr=>∃(k:Nat) (X1:Nat->Prop),v=ah ag (m.lo+k)/\m.lo+k<=m.hi+1/\Step X X1 W wr/\¬X1 W.heap.size/\J (pre++((gG m.lo m.hi).take k).flatMap fun n=>leaves ok r (lM+1) (a.put lM n)) X1 wr/\
   ∃a':eN,(∀n,a'.put lM n=a.put lM n)/\wr.heap[W.heap.size]?=some (aw a'.cells 134 (0,0))) (fun v _=>(m.hi+1-intOf v).toNat)
 case atStart=>exact⟨0,X,by simp,by omega,Step.of_below b1,HXa.out,by simpa using HJ1.out,a,fun _=>rfl,ay W _⟩
 case round=>
  obtain⟨k,X1,rfl,hk,hst,xk,hjk,a',ha',hab⟩:=hrel;have UD:=HE.out.step hst;have Pj:Step X X1 W (wr.setCell ⟨W.heap.size,1+lM,none⟩ (ah ag (m.lo+k))):=Ir hst _ (ax _);have SH:=HE.out.step Pj;have LK:=Qb lM N2 (m.lo+k) hab;have hcc:a'.put lM (m.lo+k)=a.put lM (m.lo+k):=ha' _;rw[hcc] at LK
  have YO:J (pre++((gG m.lo m.hi).take k).flatMap fun n=>leaves ok r (lM+1) (a.put lM n)) X1 (wr.setCell ⟨W.heap.size,1+lM,none⟩ (ah ag (m.lo+k))):=
   HJ.out _ _ _ _ hjk fun i hi=>bt _ _ _ _ (by rintro rfl;exact xk hi)
  have hx1:=VW _ _ _ hjk;clear x0 x1 x2 x3 x4 x5 x6 x7 x8 x9 oh og o6 oA oW c1 c2;obtain⟨x0,x1,x2,x3,x4,x5,x6,x7,x8,x9,oh,og,o6,oA,oW⟩:=bT UD.l9;obtain⟨c1,c2⟩:=HC.out _ UD.below;have v0:=aJ hab 0 _ rfl;have v1:=aJ hab 1 _ rfl;have v2:=aJ hab 2 _ rfl;have v3:=aJ hab 3 _ rfl
  have vm:∃u,wr.cell? ⟨W.heap.size,1+lM,none⟩=some u:=by
   match lM,N2 with
   |0,_=>exact⟨_,v1⟩
   |1,_=>exact⟨_,v2⟩
   |2,_=>exact⟨_,v3⟩
  obtain⟨um,vm⟩:=vm;have vf:=dg hab (1+lM);have z0:=aJ LK 0 _ rfl;have z1:=aJ LK 1 _ rfl;have z2:=aJ LK 2 _ rfl;have z3:=aJ LK 3 _ rfl;have n0:=aJ SH.hnk 0 _ rfl;have hap:=eN.Nu ha lM (n:=m.lo+k) (by omega);have w2:IntKind.i64.wrap (m.lo+(k:Int)+1)=m.lo+((k+1:Nat):Int):=by rw[fE _ (by omega) (by omega)];omega
  by_cases hlt:m.lo+(k:Int)<=m.hi
  .obtain⟨zG,YN⟩:=Eh hlt;have Ju:=Hw (gG m.lo m.hi) (fun n=>leaves ok r (lM+1) (a.put lM n)) zG;rw[YN zG] at Ju
   have hih:=HI.out (a.put lM (m.lo+k)) (hap (by omega)) _ X1 _ SH YO (by
    rw[List.append_assoc,<-Ju];have:=HP.out;rw[hlv] at this;refine List.IsPrefix.trans ?_ this;rw[List.prefix_append_right_inj];refine⟨((gG m.lo m.hi).drop (k+1)).flatMap fun n=>leaves ok r (lM+1) (a.put lM n),?_⟩
    rw[<-List.flatMap_append,List.take_append_drop])
   have HPP:Hid (∀n,(a.put lM (m.lo+k)).put lM n=a.put lM n):=aj fun n=>eN.Wv _ _ _ _;have HIH:=aj hih;have HS2:=aj Pj;have HF:=aj Ju;have Kb:=aj hlv;have HA:=aj LK;have HX1:=aj hx1;have HN:=aj SH;have HXX:=aj xk;clear hih Pj Ju YN YO SH UD hab LK hst hjk xk ha' hcc hlv hx1 hap;generalize a.put lM (m.lo+k)=a2 at *
   gi_wp2_with (first
    |(refine⟨trivial,rfl,?_⟩;gi_at_call 169;rw[callsIn_wide];refine HIH.out.mono ?_;clear HIH;rintro e W3 ⟨X3,hs3,(⟨rfl,hj3⟩|⟨rfl,q,hj3⟩)⟩))
   .go_roundw
    case rel=>
     have aek:W.heap.size<(wr.setCell ⟨W.heap.size,1+lM,none⟩ (ah ag (m.lo+k))).heap.size:=(ai.1 HA.out).1;refine⟨k+1,X3,by simp,by omega,HS2.out.trans hs3,fun h=>HXX.out (hs3.old _ aek h),?_,a2,HPP.out,(hs3.same _ aek HXX.out).trans HA.out⟩;rw[HF.out,<-List.append_assoc];exact hj3
    case measure=>simp[intOf];omega
   go_ret
   exact⟨X3,HS2.out.trans hs3,.inr ⟨rfl,q,hj3⟩⟩
  have hmh:m.hi=m.lo+k-1:=by omega
  have hall:(gG m.lo m.hi).take k=gG m.lo m.hi:=dp (by simp[gG];omega);rw[hall] at hjk;have HJK:=aj hjk;have HS:=aj hst;have Kb:=aj hlv;clear Pj YO SH UD hab LK hst hjk xk ha' hcc hlv hx1 hap hall
  gi_wp2
  go_ret
  rw[Kb.out];exact⟨X1,HS.out,cK ⟨rfl,HJK.out⟩⟩
theorem TH(b:BB)(bq aK aA:ak)(ml:List Mn)(ss:List Int)(ms:List Mk)(w0:ar)(hB:cU b bq aK aA ml ss ms w0)(bk yk nk l:Nat)(all:List eN)(J Jx:List eN->(Nat->Prop)->ar->Prop)(hJ:Lag.Abides J)(VW:Lag.CR J)
  (hY:Vn aq l RV w0.heap.size all J Jx):∀(r fr:List Mn),ml=fr++r->∀(a:eN),a.Ok->∀(pre:List eN) (X:Nat->Prop) (W:ar),GI b bq aK aA w0 bk yk nk l X W->J pre X W->pre++leaves (jP b ss ms) r fr.length a <+: all->
   bu aq 169 #[aR a.cells,ah ag fr.length,pv bk 0,pv yk 0,pv nk 0] W (Qh J Jx X W pre (leaves (jP b ss ms) r fr.length a)):=by
 intro r
 induction r with
 |nil=>
  rintro fr rfl a ha pre X W hE hj hp;have e:fr++([]:List Mn)=fr:=List.append_nil _;have:=Rb b bq aK aA (fr++[]) ss ms w0 hB bk yk nk l all J Jx hJ VW hY a ha pre X W hE hj (by rw[e];exact hp);rw[e] at this;exact this
 |cons m r ih=>
  intro fr Uh a ha pre X W hE hj hp;refine Ra b bq aK aA ml ss ms w0 hB bk yk nk l all J Jx hJ VW fr m r Uh (fun a ha pre X W hE hj hp=>?_) a ha pre X W hE hj hp;have:=ih (fr++[m]) (by rw[Uh];simp) a ha pre X W hE hj (by simpa using hp);simpa using this
theorem mV(W:ar)(A B C:Array ak)(tA tB tC:aZ) :
  (((W.alloc (aw A tA)).alloc (aw B tB)).alloc (aw C tC)).heap[W.heap.size]?=some (aw A tA (0,0))/\
  (((W.alloc (aw A tA)).alloc (aw B tB)).alloc (aw C tC)).heap[W.heap.size+1]?=some (aw B tB (0,0))/\
  (((W.alloc (aw A tA)).alloc (aw B tB)).alloc (aw C tC)).heap[W.heap.size+2]?=some (aw C tC (0,0)):=by
 refine⟨?_,?_,?_⟩
 .exact(aX _ _ _ (by simp;omega)).trans ((aX _ _ _ (by simp)).trans (ay W _))
 .refine(aX _ _ _ (by simp)).trans ?_;have:=ay (W.alloc (aw A tA)) (aw B tB);rwa [ej] at this
 have:=ay ((W.alloc (aw A tA)).alloc (aw B tB)) (aw C tC);rwa [ej,ej] at this
theorem HV(b:BB)(bq aK aA:ak)(ml:List Mn)(ss:List Int)(ms:List Mk)(w0:ar)(hB:cU b bq aK aA ml ss ms w0):aby aq 117 #[aR (b.cells bq aK aA)] RV (bw b ml ss ms) w0:=by
 intro l J Jx X W hb hX hJ hJx VW ah2 hY h0;show bu aq 117 #[aR (b.cells bq aK aA),.func (.yield l) #[] #[]] W _;have cY:=hB.ok;have SE:=cY.leak;have XE:=mV W (b.cells bq aK aA) #[.func (.yield l) #[] #[]] #[.func (.func 169) #[] #[pv W.heap.size 0,pv (W.heap.size+1) 0,pv (W.heap.size+1+1) 0]] 119 159 181;have hb3:∀A B C,az W.heap.size W (((W.alloc A).alloc B).alloc C):=fun A B C=>(((au _ W).alloc (ax _) _).alloc (by simp) _).alloc (by simp;omega) _
 have hE0:GI b bq aK aA w0 W.heap.size (W.heap.size+1) (W.heap.size+1+1) l X (((W.alloc (aw (b.cells bq aK aA) 119)).alloc (aw #[.func (.yield l) #[] #[]] 159)).alloc (aw #[.func (.func 169) #[] #[pv W.heap.size 0,pv (W.heap.size+1) 0,pv (W.heap.size+1+1) 0]] 181)):=
  ⟨hb.trans ((hb3 _ _ _).mono hb.size),XE.1,XE.2.1,XE.2.2,fun h=>by have:=(hX _ h).2;omega,fun h=>by have:=(hX _ h).2;omega,fun h=>by have:=(hX _ h).2;omega,fun k h=>(hX k h).1⟩
 have hS0:=Step.of_below (X:=X) (hb3 (aw (b.cells bq aK aA) 119) (aw #[.func (.yield l) #[] #[]] 159) (aw #[.func (.func 169) #[] #[pv W.heap.size 0,pv (W.heap.size+1) 0,pv (W.heap.size+1+1) 0]] 181));have hJ0:=hJ _ _ _ (((W.alloc (aw (b.cells bq aK aA) 119)).alloc (aw #[.func (.yield l) #[] #[]] 159)).alloc (aw #[.func (.func 169) #[] #[pv W.heap.size 0,pv (W.heap.size+1) 0,pv (W.heap.size+1+1) 0]] 181)) h0 fun k hk=>(hb3 _ _ _).block k (hX k hk).2
 have hN:=fun(X1:Nat->Prop) (W1:ar) (n:Int) (h1:0<=n) (h2:n<=99) (pre:List eN) (hE:GI b bq aK aA w0 W.heap.size (W.heap.size+1) (W.heap.size+1+1) l X1 W1) (hj:J pre X1 W1) (hp:pre++leaves (jP b ss ms) ml 0 ⟨n,0,0,0⟩ <+: bw b ml ss ms)=>
  TH b bq aK aA ml ss ms w0 hB W.heap.size (W.heap.size+1) (W.heap.size+1+1) l (bw b ml ss ms) J Jx hJ VW hY ml [] rfl ⟨n,0,0,0⟩ ⟨⟨h1,by show n<=400;omega⟩,by simp,by simp,by simp⟩ pre X1 W1 hE hj hp
 have HN:=aj hN;have HE0:=aj hE0;have HS0:=aj hS0;have HJ0:=aj hJ0;clear XE hb3 hE0 hS0 hJ0 hN hY hJ hJx VW ah2 h0 hX hb hB;generalize uQ:jP b ss ms=ok at *;have hall:bw b ml ss ms=(gG b.ll b.lm).flatMap fun n=>leaves ok ml 0 ⟨n,0,0,0⟩:=by rw[<-uQ];rfl
 rw[hall] at HN ⊢;clear hall uQ
 go_enter Tryz.func117,Tryz.ntmps117
 go_wp2
 go_loopw [5] (fun v wr=>∃(k:Nat) (X1:Nat->Prop),v=ah ag (b.ll+k)/\b.ll+k<=b.lm+1/\Step X X1 W wr/\GI b bq aK aA w0 W.heap.size (W.heap.size+1) (W.heap.size+1+1) l X1 wr/\J (((gG b.ll b.lm).take k).flatMap fun n=>leaves ok ml 0 ⟨n,0,0,0⟩) X1 wr) (fun v _=>(b.lm+1-intOf v).toNat)
 case atStart=>exact⟨0,X,by simp,by omega,HS0.out,HE0.out,by simpa using HJ0.out⟩
 case round=>
  obtain⟨k,X1,rfl,hk,hst,UD,hjk⟩:=hrel;obtain⟨x0,x1,x2,x3,x4,x5,x6,x7,x8,x9,oh,og,o6,oA,oW⟩:=bT UD.l9;have n0:=aJ UD.hnk 0 _ rfl;have w2:IntKind.i64.wrap (b.ll+(k:Int)+1)=b.ll+((k+1:Nat):Int):=by rw[fE _ (by omega) (by omega)];omega
  by_cases hlt:b.ll+(k:Int)<=b.lm
  .obtain⟨zG,YN⟩:=Eh hlt;have Ju:=Hw (gG b.ll b.lm) (fun n=>leaves ok ml 0 ⟨n,0,0,0⟩) zG;rw[YN zG] at Ju
   have hih:=HN.out X1 wr (b.ll+k) (by omega) (by omega) _ UD hjk (by
    rw[<-Ju];refine⟨((gG b.ll b.lm).drop (k+1)).flatMap fun n=>leaves ok ml 0 ⟨n,0,0,0⟩,?_⟩
    rw[<-List.flatMap_append,List.take_append_drop])
   have HIH:=aj hih;have HS2:=aj hst;have HF:=aj Ju;have HEr:=aj UD;clear hih Ju YN UD hst hjk
   go_wp2_with (first
    |(go_at_call 169;refine HIH.out.mono ?_;clear HIH;rintro e W3 ⟨X3,hs3,(⟨rfl,hj3⟩|⟨rfl,q,hj3⟩)⟩))
   .go_roundw
    case rel=>
     refine⟨k+1,X3,by simp,by omega,HS2.out.trans hs3,HEr.out.step hs3,?_⟩;rw[HF.out];exact hj3
    case measure=>simp[intOf];omega
   (try simp only[Exit.inBlock,Exit.then]);refine bodyPost_ret (results_none rfl _ _ _) rfl ?_
   exact⟨⟨_,rfl⟩,X3,HS2.out.trans hs3,.inr ⟨q,hj3⟩⟩
  have hall:(gG b.ll b.lm).take k=gG b.ll b.lm:=dp (by simp[gG];omega);rw[hall] at hjk;have HJK:=aj hjk;have HS:=aj hst;clear UD hst hjk hall;go_wp2
  go_end0
  exact⟨⟨_,rfl⟩,X1,HS.out,cK HJK.out⟩
end Go.Proofs.YtffladgmkiimjaaGreatDoor
namespace Go.Lag
open Go Go.RowKit
def Whole(A:ak->Prop)(e:aZ)(w:ar)(v:ak):Prop:=∀g,v.ownBlock=some g->∃cur,w.heap[g]?=some (.cells cur e (0,0))/\∀u∈cur,A u
theorem Ga{A:ak->Prop}{zs:Array ak}(h:∀u∈zs,A u)(n:Nat):∀u∈fS zs n,A u:=by
 intro u hu;unfold fS at hu;rw[Array.mem_map] at hu;obtain⟨i,hi,rfl⟩:=hu;have hlt:i<n*zs.size:=by simpa using hi
 have kC:0<zs.size:=by
  rcases Nat.eq_zero_or_pos zs.size with h0|h0
  .rw[h0] at hlt;simp at hlt
  exact h0
 have hk:=Nat.mod_lt i kC;rw[getElem!_pos zs _ hk];exact h _ (Array.getElem_mem hk)
theorem JV{P:aL}(w:ar)(A:ak->Prop)(base:Nat)(t ty e:aZ)(i:TypeInfo)(z:ak)(size sB:Nat)(ht:P.underlying t=some (.slice e))(hi:P.info? e=some i)(hz:i.zero=some z)
  (hsize:i.size=size) (hby:i.bytes=sB) (hzs:z.cells.size=size) (hsz:0<size)
  (v:ak) (n:Nat) (xs:List ak) (hown:w.ownsRow base e size v n xs)
  (a:Addr) (m c:Nat) (news:List ak) (hl:news.length=m*size) (hnews:∀j u,news[j]?=some u->w.cell? (a.add j)=some u) (h1:∀u∈news,u.oneCell'=true)
  (h63:n+m<=maxLen) (hbytes:(n+m)*sB<=140737488355328) (hm:0<m)
  (hAz:∀u∈z.cells,A u) (hAn:∀u∈news,A u) (hAv:Whole A e w v) {v':ak} {w':ar}
  (hr:(Builtin.append_ #[t,t] ty #[v,.slice (some a) m c]).run P w=.ok v' w'):Whole A e w' v':=by
 subst hsize;subst hby;have Z5:n+m<=9223372036854775807:=by simp only[maxLen] at h63;omega
 have hAx:∀u∈xs,A u:=by
  intro u hu;rcases hown.2 with⟨rfl,rfl⟩|⟨g,cap,cur,rfl,_,hg,_,_,_,T9⟩
  .have hx:xs=[]:=bf (by simpa using hown.1);rw[hx] at hu;cases hu
  obtain⟨cur',FP,hA⟩:=hAv g rfl;rw[hg] at FP;obtain rfl:cur=cur':=by simpa using FP
  rw[<-T9] at hu;exact hA u (by simpa using eQ hu)
 have fin:∀(l:List ak) (k:Nat),(∀u∈l,A u)->∀u∈l.toArray++fS z.cells k,A u:=by
  intro l k hl u hu;rw[Array.mem_append] at hu;rcases hu with h|h
  .exact hl u (by simpa using h)
  exact Ga hAz k u h
 rcases hown.2 with⟨rfl,rfl⟩|⟨g,cap,cur,rfl,hbg,hg,vo,hcm,hcs,T9⟩
 .have hr2:=run_append_nil (P:=P) w t ty e i z ht hi hz a m c news hl hnews hm (by omega) (by have hb:=hbytes;simp only[di] at hb;omega);rw[hr2] at hr;cases hr;intro g hg;obtain rfl:w.heap.size=g:=by simpa [jq] using hg
  exact⟨_,heap_alloc_new w.drew _,fin _ _ hAn⟩
 by_cases hroom:n+m<=cap
 .have Ul:n*i.size+news.length<=cur.size:=by rw[hl,hcs,<-Nat.add_mul];exact Nat.mul_le_mul_right _ hroom
  have hr2:=run_append_room (P:=P) w t ty e i ht hi g n cap cur hg a m c news hl hnews h1 hroom Ul;rw[hr2] at hr;cases hr;intro g' FP;obtain rfl:g=g':=by simpa [jq] using FP
  refine⟨_,setRow_heap w g cur _ e _ hg,?_⟩;obtain⟨cur',hg2,hA⟩:=hAv g rfl;rw[hg] at hg2;obtain rfl:cur=cur':=by simpa using hg2
  intro u hu;simp only[List.mem_toArray,bI] at hu;rcases hu with(h|h)|h
  .exact hA u (by simpa using eQ h)
  .exact hAn u h
  exact hA u (by simpa using List.mem_of_mem_drop h)
 have holds:∀j u,xs[j]?=some u->w.cell? ((⟨g,0,none⟩:Addr).add j)=some u:=hown.cells (g:=g) rfl;have hr2:=run_append_grow (P:=P) w t ty e i z ht hi hz ⟨g,0,none⟩ n cap xs hown.1 holds a m c news hl hnews (by omega) (by omega) (growslice_fits (by omega) hbytes);rw[hr2] at hr;cases hr;intro g' FP;obtain rfl:w.heap.size=g':=by simpa [jq] using FP
 refine⟨_,heap_alloc_new w.drew _,?_⟩;rw[show xs.toArray++news.toArray=(xs++news).toArray by simp];refine fin _ _ fun u hu=>?_;rw[bI] at hu;exact hu.elim (hAx u) (hAn u)
section
variable{F:Fence}{nF:Nat}{P:aL}(w:ar)
theorem uO{aN:Array cR}{rest:List cR}{o:cR}{a:kH}{Q:Exit->kH->ar->Prop}(hgd:o.guard=none)(s x:bL)(t:aZ)
  (ho:o.op=.call { callee:=.builtin .append,args:=#[s,x],argTypes:=#[t,t] })
  (A:ak->Prop) (base:Nat) (e:aZ) (i:TypeInfo) (z:ak) (size sB:Nat) (ht:P.underlying t=some (.slice e)) (hi:P.info? e=some i) (hz:i.zero=some z)
  (hsize:i.size=size) (hby:i.bytes=sB) (hzs:z.cells.size=size) (hsz:0<size)
  (v:ak) (n:Nat) (xs:List ak) (hs:a.eval s=v) (hown:w.ownsRow base e size v n xs)
  (ad:Addr) (m c:Nat) (news:List ak) (hx:a.eval x=.slice (some ad) m c) (hl:news.length=m*size) (hnews:∀j u,news[j]?=some u->w.cell? (ad.add j)=some u) (h1:∀u∈news,u.oneCell'=true)
  (h63:n+m<=maxLen) (hbytes:(n+m)*sB<=140737488355328) (hbase:base<=w.heap.size) (hm:0<m) (hAz:∀u∈z.cells,A u) (hAn:∀u∈news,A u) (hAv:Whole A e w v)
  (h:∀v' w',w'.ownsRow base e size v' (n+m) (xs++news)->w.grownBy w' v.ownBlock->Whole A e w' v'->(v'.ownBlock=v.ownBlock\/v'.ownBlock=some w.heap.size)->wpListIn F nF P aN Q rest (a.put o.dst v') w') :
  wpListIn F nF P aN Q (o::rest) a w:=by
 refine wpListIn_plain hgd fun K hK=>?_;obtain⟨v',w',hr,h2,h3,h4,h5⟩:=run_append_own_at (P:=P) w base t o.type e i z size sB ht hi hz hsize hby hzs hsz v n xs hown ad m c news hl hnews h1 h63 hbytes hbase;have h6:=JV w A base t o.type e i z size sB ht hi hz hsize hby hzs hsz v n xs hown ad m c news hl hnews h1 h63 hbytes hm hAz hAn hAv hr;unfold Oper.wpIn;refine⟨by simp[Oper.about,ho,resolve,Target.leads,Sem.run_pure],?_⟩;rw[Oper.semAt_plain F _ _ (by rw[ho];intro c hc';cases hc')];simp[cG,ho,resolve,invoke,builtin,hs,hx,hr,Result.andThen];exact hK _ _ (h v' w' h2 h3 h6 h5)
end
end Go.Lag
