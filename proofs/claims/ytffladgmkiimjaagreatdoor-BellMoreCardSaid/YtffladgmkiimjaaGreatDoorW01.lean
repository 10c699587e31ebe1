/- A REGION RECKONED: what its operations give is computed by the kernel  .. -/
import Derived.Test.YtffladgmkiimjaaGreatDoorW00
import Derived.Deep.Slices
import Derived.RangeFuncNested
import Derived.RangeFuncBound
import Derived.Shelf.RegionOpen
import Derived.LoopNIn
import Derived.LoopIn
import Derived.Maps.OwnIn
set_option linter.all false
set_option maxHeartbeats 0
set_option maxRecDepth 1000000
open Array renaming getElem_modify -> CW,getElem?_eq_getElem -> aN,getD_eq_getD_getElem? -> aZ,getElem?_eq_some_iff -> ag,getElem?_eq_none -> fS,replicate_zero -> kD,replicate_succ -> kE,toList_map -> xr
open Bool renaming and_eq_true -> aI,false_eq_true -> bF
open Go renaming Program -> aK,TypeId -> aV,Value -> ai,World -> ak,undef -> au,Operand -> bI,bodyPost_ret -> bf,Calls -> bm,execOp -> cC,Oper -> cY,results_tmp -> cg,Addr -> dc,Sem -> iZ,Tmp -> j5,Act -> jY,yielded -> ku,bytes -> tR
open Go.Builtin renaming zeroCells -> f_
open Go.Code renaming region -> CV
open Go.Ending renaming returned -> aU,returned -> bq
open Go.IntKind renaming i64 -> af
open Go.Lib renaming hid -> aj
open Go.Obj renaming cells -> ar
open Go.Proofs.Tryz renaming prog -> aq,underlying28 -> cF,underlying3 -> eR,underlying122 -> js
open Go.Region renaming wanted -> dg,binds -> fR
open Go.RowKit renaming Below -> gu
open Go.RowKit.Below renaming heap_setCell -> aW,heap_alloc -> aY,refl -> ay
open Go.Value renaming bool -> aH,agg -> aO,slice -> ae,int -> ah,int -> ax,oneCell' -> bJ,pointer -> fP,ownBlock -> jD
open Go.World renaming alloc_heap_new -> aw,putObj_heap_other -> dS,cell? -> dU,size_alloc -> eD,cell?_alloc_lt -> eI,setCell -> kJ
open List renaming map_congr_left -> Hn,all_eq_true -> a7,range -> aP,eq_nil_of_length_eq_zero -> a_,mem_append -> bL,range' -> bN,mem_range -> bO,mem_cons -> bQ,mem_cons_of_mem -> bW,take_of_length_le -> cQ,map_cons -> cV,mem_cons_self -> dJ,mem_map -> dW,length_cons -> eT,all_cons -> ej,mem_of_mem_take -> fV,cons_append -> fq,append_toArray -> iO,nil_append -> jE,size_toArray -> jS,push_toArray -> jT,getElem?_eq_some_iff -> lI,range_eq_range' -> nv,length_nil -> o7,length_append -> qK,any_eq_true -> xq
open List.cons renaming injEq -> BD
open Nat renaming reduceSub -> Er,reduceAdd -> Et,beq -> Hm,le_trans -> aG,le_refl -> aJ,lt_of_lt_of_le -> bA,zero_add -> dz,eq_of_beq_eq_true -> iJ
open Option.some renaming inj -> aT,injEq -> ia
open Or renaming inl -> bV
open Prod.mk renaming injEq -> iA
namespace Go.Lag
open Go Go.RowKit
def look(P:aK)(cs:Array ai){α:Type}:iZ α->Option (α × List Nat)
 |.pure a=>some (a,[])
 |.program k=>look P cs (k P)
 |.load _ a k=>match a.spot,cs[a.off]? with
  |none,some v=>match look P cs (k v) with
   |some (x,l)=>some (x,a.block::l)
   |none=>none
  |_,_=>none
 |_=>none
def mX{P:aK}{cs:Array ai}{α:Type}{w:ak}{s:iZ α}:∀ {a:α} {l:List Nat},look P cs s=some (a,l)->(∀b∈l,∃ty fr,w.heap[b]?=some (.cells cs ty fr))->s.run P w=.ok a w:=by
 induction s with
 |pure x=>intro a l h _;cases h;rfl
 |program k ih=>intro a l h hB;exact ih P h hB
 |load m ad k ih=>
  intro a l h hB;unfold look at h;cases hs:ad.spot with
  |some _=>rw[hs] at h;simp at h
  |none=>
   cases hc:cs[ad.off]? with
   |none=>rw[hs,hc] at h;simp at h
   |some v=>
    rw[hs,hc] at h;simp only[] at h;cases hk:look P cs (k v) with
    |none=>rw[hk] at h;simp at h
    |some x=>
     rw[hk] at h;obtain⟨x,l'⟩:=x;cases h
     have h1:w.cell? ad=some v:=by
      obtain⟨ty,fr,hb⟩:=hB ad.block (by simp);unfold dU;rw[hb,hs];exact hc
     unfold Sem.run;rw[h1];exact ih v hk fun b hb=>hB b (bW _ hb)
 |_=>intro a l h _;cases h
def vE:Op->Option (List bI)
 |.move x|.assign x|.box _ x|.load _ x|.unOp _ _ x|.convert _ _ x|.fieldAddr _ x _|.field _ x _|.extract x _|.nilCheck x|.makeInterface _ x=>some [x]
 |.binOp _ _ x y _|.indexAddr _ x y|.index _ x y|.lookup _ x y _=>some [x,y]
 |.build _ ps|.buildSlice _ _ ps=>some (ps.toList.map (·.2))
 |.alloc _=>some []
 |.store _ x y|.makeSlice _ x y=>some [x,y]
 |.mapUpdate _ x y z=>some [x,y,z]
 |.slice _ x lo hi mx=>some (x::(lo.toList++(hi.toList++mx.toList)))
 |.makeFunc _ xs ys=>some (xs.toList++ys.toList)
 |.call c=>match c.callee with
  |.value f=>some (f::c.args.toList)
  |.builtin _=>some c.args.toList
  |_=>none
 |_=>none
def map_congr{α:Type}{f g:bI->α}{xs:Array bI}(h:∀x∈xs.toList,f x=g x):xs.map f=xs.map g:=by
 apply Array.ext';rw[xr,xr];exact Hn h
def y_{α:Type}{f g:bI->α}{xs:Option bI}(h:∀x∈xs.toList,f x=g x):xs.map f=xs.map g:=by
 cases xs with
 |none=>rfl
 |some x=>simp[h x (by simp)]
def execOp_congr{o:cY}{ev Gh:bI->ai}{l:List bI}(hl:vE o.op=some l)(h:∀x∈l,ev x=Gh x):cC ev o=cC Gh o:=by
 unfold cC;cases ho:o.op<;>rw[ho] at hl<;>simp only[vE] at hl<;>try (cases hl;done)
 case call c=>
  cases hc:c.callee<;>rw[hc] at hl<;>simp only[] at hl<;>try (cases hl;done)
  .cases hl;have h1:c.args.map ev=c.args.map Gh:=map_congr fun x hx=>h x (bW _ hx);simp only[resolve,hc,h1,h _ (dJ ..)]
  cases hl;have h1:c.args.map ev=c.args.map Gh:=map_congr h;simp only[resolve,hc,h1]
 case build t ps=>
  cases hl
  have h1:(ps.map fun(x:Nat × bI)=>(x.1,ev x.2))=ps.map fun x=>(x.1,Gh x.2):=by
   apply Array.ext';rw[xr,xr];exact Hn fun x hx=>by rw[h x.2 (dW.2 ⟨x,hx,rfl⟩)]
  simp only[h1]
 case buildSlice t k ps=>
  cases hl
  have h1:(ps.map fun(x:Nat × bI)=>(x.1,ev x.2))=ps.map fun x=>(x.1,Gh x.2):=by
   apply Array.ext';rw[xr,xr];exact Hn fun x hx=>by rw[h x.2 (dW.2 ⟨x,hx,rfl⟩)]
  simp only[h1]
 case slice t x lo hi mx=>
  cases hl;have h1:lo.map ev=lo.map Gh:=y_ fun x hx=>h x (by simp[hx]);have h2:hi.map ev=hi.map Gh:=y_ fun x hx=>h x (by simp[hx]);have h3:mx.map ev=mx.map Gh:=y_ fun x hx=>h x (by simp[hx]);simp only[h1,h2,h3,h x (by simp)]
 case makeFunc fn xs ys=>
  cases hl;have h1:xs.map ev=xs.map Gh:=map_congr fun x hx=>h x (by simp at hx ⊢;exact .inl hx);have h2:ys.map ev=ys.map Gh:=map_congr fun x hx=>h x (by simp at hx ⊢;exact .inr hx);simp only[h1,h2]
 all_goals
  cases hl
  first
   |rfl
   |(simp only[h _ (dJ ..)];done)
   |(simp only[h _ (dJ ..),h _ (bW _ (dJ ..))];done)
   |(simp only[h _ (dJ ..),h _ (bW _ (dJ ..)),h _ (bW _ (bW _ (dJ ..)))];done)
structure Cf where
 lits:List (Nat × Bool)
 hs:List (Nat × ai)
 mem:List (Nat × Array ai)
 lds:List (Nat × Nat)
def mQ{β:Type}:List (Nat × β)->Nat->Option β
 |[],_=>none
 |p::l,i=>bif Hm p.1 i then some p.2 else mQ l i
def Ax{β:Type}:∀ {l:List (Nat × β)} {i:Nat} {v:β},mQ l i=some v->(i,v)∈l
 |p::l,i,v,h=>by
  unfold mQ at h;cases hb:Hm p.1 i with
  |true=>
   rw[hb] at h;have:=iJ hb;cases h;obtain⟨a,b⟩:=p;cases this;exact dJ ..
  |false=>rw[hb] at h;exact bW _ (Ax h)
abbrev En:=List (Nat × Bool) × ai × List Nat
def eqT:Option Nat->Nat->Bool
 |some d,t=>Hm d t
 |none,_=>false
def yl(aM:Array cY):List Edge->j5->Option Nat
 |[],_=>none
 |e::l,t=>bif fR .any e&&eqT (eC aM e.on) t then some e.on else yl aM l t
def yU{aM:Array cY}{t j:Nat}:∀ {l:List Edge},yl aM l t=some j->∃e∈l,e.on=j/\fR .any e=true/\eC aM j=some t
 |e::l,h=>by
  unfold yl at h;cases hb:(fR .any e&&eqT (eC aM e.on) t) with
  |true=>
   rw[hb] at h;cases h;rw[aI] at hb;refine⟨e,dJ ..,rfl,hb.1,?_⟩;have:=hb.2;cases hd:eC aM e.on with
   |none=>rw[hd] at this;cases this
   |some d=>rw[hd] at this;rw[iJ this]
  |false=>
   rw[hb] at h;obtain⟨e',he,h1⟩:=yU h;exact⟨e',bW _ he,h1⟩
def Pt:ai->Bool->Bool
 |.bool true,b=>b
 |.bool false,b=>!b
 |_,_=>false
def oY{v:ai}{b:Bool}:Pt v b=true↔v=.bool b:=by
 unfold Pt;cases v<;>try simp
 rename_i x;cases x<;>cases b<;>simp
def bools:ai->ai->ai->ai
 |.bool t,.bool x,.bool y=>.bool (bif t then x else y)
 |_,_,_=>au
def isBool:ai->Bool
 |.bool _=>true
 |_=>false
def subs(a b:List (Nat × Bool)):Bool:=a.all fun p=>b.any fun q=>Hm p.1 q.1&&(p.2==q.2)
section
variable(P:aK)(aM:Array cY)(base:List (j5 × ai))(C:Cf)
def opAt(i:Nat):Oper:=(aM.toList).getD i default
def DK(st:Nat->En)(l:List Edge):bI->ai
 |.const v=>v
 |.global g=>.pointer (some ⟨g,0,none⟩)
 |.func f=>.func (.func f) #[] #[]
 |.tmp t=>match yl aM l t with
  |some j=>(st j).2.1
  |none=>(mQ base t).getD au
def wR(st:Nat->En)(l:List Edge)(ch:List (Nat × Bool)):bI->Bool
 |.tmp t=>match yl aM l t with
  |some j=>subs (st j).1 ch
  |none=>(mQ base t).isSome
 |_=>true
def Rm(st:Nat->En)(o:cY):Option (List (Nat × Bool)):=
 match o.guard with
 |none=>some []
 |some (j,b)=>match mQ C.lits j with
  |some b'=>bif b'==b then some (st j).1 else none
  |none=>some ((j,b)::(st j).1)
def Vn(l:List Edge):bI->Option Bool
 |.tmp t=>(yl aM l t).bind (mQ C.lits)
 |_=>none
def QB(l:List Edge)(c:bI)(b:Bool)(ch:List (Nat × Bool)):List (Nat × Bool):=
 match c with
 |.tmp t=>match yl aM l t with
  |some j=>(j,b)::ch
  |none=>ch
 |_=>ch
def rz(i:Nat):Option (Nat × Array ai):=C.mem[(mQ C.lds i).getD 0]?
def Xa(i:Nat):Array Value:=match rz C i with|some m=>m.2|none=>#[]
def FN(st:Nat->En)(i:Nat)(o:cY):Option (Next × List Nat):=look P (Xa C i) (cC (DK aM base st o.after.toList) o)
def yS(st:Nat->En)(i:Nat)(o:cY):ai × List Nat:=
 match mQ C.hs i with
 |some v=>(v,[])
 |none=>match o.op with
  |.pick c a b=>(match Vn aM C o.after.toList c with
   |some true=>DK aM base st o.after.toList a
   |some false=>DK aM base st o.after.toList b
   |none=>bools (DK aM base st o.after.toList c) (DK aM base st o.after.toList a) (DK aM base st o.after.toList b),[])
  |_=>match FN P aM base C st i o with
   |some (.value v,bl)=>(v,bl)
   |_=>(au,[])
def wF(st:Nat->En)(i:Nat)(o:cY):En:=
 match Rm C st o with
 |none=>([],au,[])
 |some ch=>(ch,yS P aM base C st i o)
def GM:Nat->List cY->(Nat->En)->Nat->En
 |_,[],st=>st
 |i,o::l,st=>GM (i+1) l fun k=>bif Hm k i then wF P aM base C st i o else st k
def oy:Nat->En:=GM P aM base C 0 aM.toList fun _=>([],au,[])
def okC(st:Nat->En)(i:Nat)(o:cY)(ch:List (Nat × Bool)):Bool:=
 match o.op with
 |.pick c a b=>(mQ C.hs i).isNone&&wR aM base st o.after.toList ch c&&(match Vn aM C o.after.toList c with
  |some true=>Pt (DK aM base st o.after.toList c) true&&wR aM base st o.after.toList ch a
  |some false=>Pt (DK aM base st o.after.toList c) false&&wR aM base st o.after.toList ch b
  |none=>isBool (DK aM base st o.after.toList c)&&isBool (DK aM base st o.after.toList a)&&isBool (DK aM base st o.after.toList b) &&
   wR aM base st o.after.toList (QB aM o.after.toList c true ch) a&&wR aM base st o.after.toList (QB aM o.after.toList c false ch) b)
 |_=>(match vE o.op with
   |some l=>l.all (wR aM base st o.after.toList ch)
   |none=>false) &&
  (match mQ C.hs i with
  |some _=>true
  |none=>match FN P aM base C st i o with
   |some (.value _,bl)=>(rz C i).isSome||bl.isEmpty
   |_=>false)
def Xd(st:Nat->En):Nat->List cY->Bool
 |_,[]=>true
 |i,o::l=>((match o.guard with
  |some (j,_)=>(eC aM j).isSome&&(match mQ C.lits j with|some b'=>Pt (st j).2.1 b'|none=>true)
  |none=>true)&&(match Rm C st o with
  |none=>true
  |some ch=>okC P aM base C st i o ch))&&Xd st (i+1) l
def ldL(st:Nat->En):Nat->List cY->List (List Nat)
 |_,[]=>[]
 |i,_::l=>(st i).2.2::ldL st (i+1) l
def ldR(st:Nat->En):Nat->List cY->List (List Nat)
 |_,[]=>[]
 |i,_::l=>((st i).2.2.map fun _=>((rz C i).map (·.1)).getD 0)::ldR st (i+1) l
def mO(st:Nat->En)(ch:List (Nat × Bool)):Bool:=ch.all fun p=>Pt (st p.1).2.1 p.2
def mP(s:iZ Next)(w:ak)(v:ai):Prop:=
 match s.run P w with
 |.ok (.value u) w'=>u=v/\Bw w w'
 |.ok (.enter f args) w'=>w'=w/\bm P f args w fun e w''=>e=.returned v/\Bw w w''
 |_=>False
def Oe(G:Nat->iZ Next->ak->ai->Prop)(S:ak->Prop)(st:Nat->En):List (Nat × ai)->Prop
 |[]=>True
 |p::l=>(∀w,S w->mO st (st p.1).1=true->G p.1 (cC (DK aM base st (opAt aM p.1).after.toList) (opAt aM p.1)) w p.2)/\Oe G S st l
def oA(S:ak->Prop):List (Nat × Array ai)->Prop
 |[]=>True
 |m::l=>(∀w,S w->∃ty fr,w.heap[m.1]?=some (.cells m.2 ty fr))/\oA S l
def yu(st:Nat->En)(i:Nat):Pred:=
 match eC aM i with
 |some _=>fun u _ _=>u=Nk (mO st (st i).1) (st i).2.1
 |none=>fun _ _ _=>True
def qj(st:Nat->En):List Pred:=(aP aM.size).map (yu aM st)
def YE(st:Nat->En)(t:j5):List cY->Nat->Option ai
 |[],_=>none
 |o::l,i=>bif eqT o.dst t then(match (st i).1 with|[]=>some (st i).2.1|_=>none) else YE st t l (i+1)
end
section
variable{P:aK}{aM:Array cY}{base:List (j5 × ai)}{C:Cf}{n:Nat}{S:ak->Prop}{outs:List (j5 × ai)}
theorem mP.yields{o:cY}{ev:bI->ai}{w:ak}{v:ai}{R:ai->ak->Prop}(hg:mP P (cC ev o) w v)(hR:∀w',Bw w w'->R v w'):Yields P o ev w R:=by
 unfold mP at hg;unfold Yields;generalize (cC ev o).run P w=r at *;cases r with
 |halt x w'=>exact hg.elim
 |ok nx w'=>
  cases nx<;>simp only[] at hg<;>first|exact hg.elim|skip
  .obtain⟨rfl,hb⟩:=hg;exact hR _ hb
  obtain⟨rfl,hc⟩:=hg;exact hc.mono (by rintro e w'' ⟨rfl,hb⟩;exact⟨_,rfl,hR _ hb⟩)
theorem Oe.get{G:Nat->iZ Next->ak->ai->Prop}{st:Nat->En}:∀ {l:List (Nat × ai)} {p:Nat × ai},Oe aM base G S st l->p∈l->∀w,S w->mO st (st p.1).1=true->G p.1 (cC (DK aM base st (opAt aM p.1).after.toList) (opAt aM p.1)) w p.2
 |q::l,p,h,hp=>by
  rcases bQ.1 hp with rfl|hp
  .exact h.1
  exact Oe.get h.2 hp
theorem oA.get:∀ {l:List (Nat × Array ai)} {m:Nat × Array ai},oA S l->m∈l->∀w,S w->∃ty fr,w.heap[m.1]?=some (.cells m.2 ty fr)
 |q::l,m,h,hp=>by
  rcases bQ.1 hp with rfl|hp
  .exact h.1
  exact oA.get h.2 hp
theorem GL:∀(l:List cY) (i:Nat) (st:Nat->En) (k:Nat),k<i->GM P aM base C i l st k=st k
 |[],_,_,_,_=>rfl
 |o::l,i,st,k,h=>by
  unfold GM;rw[GL l (i+1) _ k (by omega)]
  have:Hm k i=false:=by
   cases hb:Hm k i with
   |false=>rfl
   |true=>have:=iJ hb;omega
  rw[this];rfl
theorem N0:∀(l:List cY) (i:Nat) (st:Nat->En) (j:Nat) (o:cY),l[j]?=some o->∃QH,GM P aM base C i l st (i+j)=wF P aM base C QH (i+j) o/\∀k,k<i+j->QH k=GM P aM base C i l st k
 |[],_,_,_,_,h=>by simp at h
 |x::l,i,st,j,o,h=>by
  unfold GM;cases j with
  |zero=>
   simp at h;subst h;refine⟨st,?_,fun k hk=>?_⟩
   .simp only[Nat.add_zero];rw[GL l (i+1) _ i (by omega)];have:Hm i i=true:=Nat.beq_refl i;rw[this];rfl
   rw[GL l (i+1) _ k (by omega)]
   have:Hm k i=false:=by
    cases hb:Hm k i with
    |false=>rfl
    |true=>have:=iJ hb;omega
   rw[this];rfl
  |succ j=>
   have:=N0 l (i+1) (fun k=>bif Hm k i then wF P aM base C st i x else st k) j o (by simpa using h);rwa [show i+1+j=i+(j+1) by omega] at this
theorem TF{st QH:Nat->En}{l:List Edge}(h:∀e∈l,fR .any e=true->st e.on=QH e.on):DK aM base st l=DK aM base QH l:=by
 funext x
 cases x<;>try rfl
 rename_i t;unfold DK;cases hs:yl aM l t with
 |none=>simp only[hs]
 |some j=>
  obtain⟨e,he,h1,h2,-⟩:=yU hs;simp only[hs];rw[<-h1,h e he h2]
theorem LS{st QH:Nat->En}{i:Nat}{o:cY}(h:∀e∈o.after.toList,fR .any e=true->st e.on=QH e.on)(hg:∀j b,o.guard=some (j,b)->st j=QH j):wF P aM base C st i o=wF P aM base C QH i o:=by
 have h1:=TF (aM:=aM) (base:=base) h
 have h2:Rm C st o=Rm C QH o:=by
  unfold Rm;cases hgd:o.guard with
  |none=>rfl
  |some jb=>obtain⟨j,b⟩:=jb;simp only[hg j b hgd]
 unfold wF yS FN;rw[h1,h2]
theorem DC{o:cY}{i j:Nat}{b:Bool}(dp:ji aM n base=true)(ho:aM[i]?=some o)(hg:o.guard=some (j,b)):∃e∈o.after.toList,fR .any e=true/\e.on=j:=by
 have hi:i<aM.size:=(ag.1 ho).1;unfold ji at dp;rw[aI,a7] at dp;have h2:=dp.1 i (bO.2 hi);rw[ho] at h2;simp only[aI,hg] at h2;obtain⟨e,he,h3⟩:=xq.1 h2.2;rw[aI,decide_eq_true_eq] at h3;exact⟨e,he,h3⟩
theorem TR(dp:ji aM n base=true){i:Nat}{o:cY}(ho:aM[i]?=some o):oy P aM base C i=wF P aM base C (oy P aM base C) i o:=by
 obtain⟨QH,h1,h2⟩:=N0 (P:=P) (aM:=aM) (base:=base) (C:=C) aM.toList 0 (fun _=>([],au,[])) i o (by simpa using ho);rw[dz] at h1 h2;unfold oy;rw[h1];refine LS (fun e he hb=>h2 _ (Gd.qW dp ho he hb)) fun j b hg=>?_;obtain⟨e,he,hb,rfl⟩:=DC dp ho hg;exact h2 _ (Gd.qW dp ho he hb)
theorem Yk{st:Nat->En}{i:Nat}{o:cY}(Td:∀c a b,o.op≠.pick c a b)(Cb:mQ C.hs i=none):yS P aM base C st i o=match FN P aM base C st i o with|some (.value v,bl)=>(v,bl)|_=>(au,[]):=by
 unfold yS;rw[Cb];cases ho:o.op<;>first|exact absurd ho (Td _ _ _)|rfl
theorem abn{st:Nat->En}{i:Nat}{o:cY}{ch:List (Nat × Bool)}(Td:∀c a b,o.op≠.pick c a b):okC P aM base C st i o ch=((match vE o.op with | some l=>l.all (wR aM base st o.after.toList ch) | none=>false)&&(match mQ C.hs i with | some _=>true | none=>match FN P aM base C st i o with | some (.value _,bl)=>(rz C i).isSome||bl.isEmpty | _=>false)):=by
 unfold okC;cases ho:o.op<;>first|exact absurd ho (Td _ _ _)|rfl
theorem Fu{st:Nat->En}{i:Nat}{u:ai}{ds:List ai}{w w':ak}(h:yu aM st i u ds w):yu aM st i u ds w':=by
 unfold yu at h ⊢;cases hd:eC aM i with
 |none=>trivial
 |some d=>rw[hd] at h;exact h
theorem uf{st:Nat->En}{i:Nat}(hi:i<aM.size):gJ (qj aM st) i=yu aM st i:=by
 unfold gJ qj;simp[List.getD,hi]
theorem R1{st:Nat->En}{a b:List (Nat × Bool)}(h:subs a b=true)(hc:mO st b=true):mO st a=true:=by
 unfold subs at h;unfold mO at *;rw[a7] at *;intro p hp;obtain⟨q,hq,h1⟩:=xq.1 (h p hp);rw[aI] at h1;have h2:=hc q hq;rw[iJ h1.1,eq_of_beq h1.2];exact h2
theorem NN{st:Nat->En}:∀ {l:List cY} {i j:Nat} {o:cY},Xd P aM base C st i l=true->l[j]?=some o->
  (∀k b,o.guard=some (k,b)->(eC aM k).isSome=true/\∀b',mQ C.lits k=some b'->Pt (st k).2.1 b'=true)/\∀ch,Rm C st o=some ch->okC P aM base C st (i+j) o ch=true
 |[],_,_,_,_,h=>by simp at h
 |x::l,i,j,o,hc,h=>by
  unfold Xd at hc;rw[aI,aI] at hc;cases j with
  |zero=>
   simp at h;subst h;refine⟨fun k b hg=>?_,fun ch hg=>?_⟩
   .have:=hc.1.1;rw[hg,aI] at this;refine⟨this.1,fun b' hk=>?_⟩;have h2:=this.2;simp only[hk] at h2;exact h2
   have:=hc.1.2;rw[hg] at this;exact this
  |succ j=>
   have:=NN hc.2 (j:=j) (by simpa using h);rwa [show i+1+j=i+(j+1) by omega] at this
theorem Vp{st:Nat->En}:∀ {l:List cY} {i j:Nat},ldL st i l=ldR C st i l->j<l.length->∀b∈(st (i+j)).2.2,b=((rz C (i+j)).map (·.1)).getD 0
 |[],_,_,_,h=>by simp at h
 |x::l,i,j,he,h=>by
  unfold ldL ldR at he;rw[BD] at he;cases j with
  |zero=>
   intro b hb;rw[Nat.add_zero] at hb ⊢;have h1:=he.1;rw[h1] at hb;obtain⟨_,_,rfl⟩:=dW.1 hb;rfl
  |succ j=>
   have:=Vp he.2 (j:=j) (by simpa using h);rwa [show i+1+j=i+(j+1) by omega] at this
theorem abf{st:Nat->En}{ev:bI->ai}{w:ak}{o:cY}{i:Nat}{ch:List (Nat × Bool)}(dp:ji aM n base=true)(ho:aM[i]?=some o)(hc:∀v,ev (.const v)=v)(hg:∀g,ev (.global g)=.pointer (some ⟨g,0,none⟩))(hf:∀f,ev (.func f)=.func (.func f) #[] #[])
  (hb:gi ev base) (hd:∀e∈o.after.toList,fR .any e=true->gJ (qj aM st) e.on (jw (eC aM e.on) ev) (gK aM ev (gp aM e.on)) w) (mN:mO st ch=true):∀ {x:bI},wR aM base st o.after.toList ch x=true->ev x=DK aM base st o.after.toList x
 |.const v,_=>hc v
 |.global g,_=>hg g
 |.func f,_=>hf f
 |.tmp t,h=>by
  unfold wR at h;unfold DK;simp only[] at h ⊢;cases hs:yl aM o.after.toList t with
  |none=>
   rw[hs] at h;simp only[] at h ⊢;cases hk:mQ base t with
   |none=>rw[hk] at h;cases h
   |some v=>
    have:=Ax hk;clear hd dp hk h
    induction base with
    |nil=>cases this
    |cons p l ih=>
     rcases bQ.1 this with rfl|h2
     .exact hb.1
     exact ih hb.2 h2
  |some j=>
   rw[hs] at h;simp only[] at h ⊢;obtain⟨e,he,rfl,h2,h3⟩:=yU hs;have h4:=hd e he h2;have hlt:=Gd.qW dp ho he h2;have hi:i<aM.size:=(ag.1 ho).1;rw[uf (by omega)] at h4;unfold yu at h4;rw[h3] at h4;simp only[jw] at h4;rw[h4,R1 h mN];rfl
theorem NG{Vs:List Pred}{ev:bI->ai}{w:ak}:∀ {l:List Edge},Hc aM Vs ev w l->∀e∈l,fR .any e=true->gJ Vs e.on (jw (eC aM e.on) ev) (gK aM ev (gp aM e.on)) w
 |e::l,h,e',he,hb=>by
  rcases bQ.1 he with rfl|he
  .exact h.1 hb
  exact NG h.2 e' he hb
theorem Xk{Y:mY}{G:Nat->iZ Next->ak->ai->Prop}{T:ak->ak->Prop}(XZ:∀w w',S w->T w w'->S w')(Tq:∀w,T w w){i:Nat}{o:cY}(ho:aM[i]?=some o)
  (hp:mQ C.hs i=none->∀ev w R v,(cC ev o).run P w=.ok (.value v) w->R v w->Y o ev w R) (hG:∀ev w v R,S w->G i (cC ev o) w v->(∀w',T w w'->R v w')->Y o ev w R)
  (dp:ji aM n base=true) (hck:Xd P aM base C (oy P aM base C) 0 aM.toList=true) (Te:ldL (oy P aM base C) 0 aM.toList=ldR C (oy P aM base C) 0 aM.toList) (hm:oA S C.mem)
  (hh:Oe aM base G S (oy P aM base C) C.hs):Gd.RJ Y aM (qj aM (oy P aM base C)) S base i o:=by
 intro ev w hS hc hg hf hb hd;have hi:i<aM.size:=(ag.1 ho).1;have hat:opAt aM i=o:=by unfold opAt;simp[List.getD,ho]
 have hstep:=TR (P:=P) (C:=C) dp ho;obtain⟨rC,hk2⟩:=NN hck (j:=i) (by simpa using ho);rw[dz] at hk2;have Te:=Vp Te (j:=i) (by simpa using hi);rw[dz] at Te;generalize hst:oy P aM base C=st at *;have hdm:=NG hd
 have post:∀ {v:ai} {w':ak},(∀d,o.dst=some d->v=Nk (mO st (st i).1) (st i).2.1)->T w w'->Post aM ev (qj aM st) S i o w v w':=fun {v w'} hv ht=>by
  refine⟨?_,.inr ⟨XZ _ _ hS ht,fun k u ds hk hu=>?_⟩⟩
  .rw[uf hi];unfold yu eC;rw[ho];simp only[Option.bind_some];cases vU:o.dst with
   |none=>trivial
   |some d=>exact hv d vU
  by_cases hks:k<aM.size
  .rw[uf hks] at hu ⊢;exact Fu hu
  unfold gJ qj;simp[List.getD,hks]
 have go:∀ch,Rm C st o=some ch->mO st ch=true->Y o ev w (Post aM ev (qj aM st) S i o w):=fun ch hgd mN=>by
  have vT:=hk2 ch hgd
  have XT:st i=(ch,yS P aM base C st i o):=by
   rw[hstep];unfold wF;rw[hgd]
  have hval:∀d,o.dst=some d->(yS P aM base C st i o).1=Nk (mO st (st i).1) (st i).2.1:=fun d _=>by
   rw[XT];show(yS P aM base C st i o).1=Nk (mO st ch) (yS P aM base C st i o).1;rw[mN];rfl
  have hop:∀ {ch':List (Nat × Bool)} {x:bI},mO st ch'=true->wR aM base st o.after.toList ch' x=true->ev x=DK aM base st o.after.toList x:=fun h1 h2=>abf dp ho hc hg hf hb hdm h1 h2
  have rest:(∀c a b,o.op≠.pick c a b)->Y o ev w (Post aM ev (qj aM st) S i o w):=fun Td=>by
   have h5:(match vE o.op with | some l=>l.all (wR aM base st o.after.toList ch) | none=>false)=true/\(match mQ C.hs i with | some _=>true | none=>match FN P aM base C st i o with | some (.value _,bl)=>(rz C i).isSome||bl.isEmpty | _=>false)=true:=by
    rw[abn Td,aI] at vT;exact vT
   cases hl:vE o.op with
   |none=>rw[hl] at h5;cases h5.1
   |some l=>
    rw[hl] at h5;have hex:cC ev o=cC (DK aM base st o.after.toList) o:=execOp_congr hl fun x hx=>hop mN (a7.1 h5.1 x hx);cases Cb:mQ C.hs i with
    |some v=>
     have h6:=hh.get (Ax Cb) w hS (by rw[XT];exact mN);simp only[hat] at h6;rw[<-hex] at h6;have hv:(yS P aM base C st i o).1=v:=by unfold yS;rw[Cb]
     rw[hv] at hval;exact hG ev w v _ hS h6 fun w' ht=>post hval ht
    |none=>
     rw[Cb] at h5;cases hlk:FN P aM base C st i o with
     |none=>rw[hlk] at h5;cases h5.2
     |some nb=>
      obtain⟨nx,bl⟩:=nb;rw[hlk] at h5;cases nx<;>try (cases h5.2;done)
      rename_i v;have hv:yS P aM base C st i o=(v,bl):=by rw[Yk Td Cb,hlk]
      rw[hv] at hval XT
      have hbl:∀b∈bl,∃ty fr,w.heap[b]?=some (.cells (Xa C i) ty fr):=fun b Tn=>by
       have h7:=Te b (by rw[XT];exact Tn);have h8:=h5.2;simp only[] at h8;unfold Xa;cases hmm:rz C i with
       |none=>
        rw[hmm] at h8;cases bl with
        |nil=>cases Tn
        |cons _ _=>cases h8
       |some m=>
        rw[hmm] at h7;have h7:b=m.1:=h7;subst h7;unfold rz at hmm;exact hm.get (List.mem_of_getElem? hmm) w hS
      have hrun:=mX (w:=w) hlk hbl;rw[<-hex] at hrun;exact hp Cb ev w _ v hrun (post hval (Tq w))
  by_cases Hi:∃c a b,o.op=.pick c a b
  case neg=>exact rest fun c a b h=>Hi ⟨c,a,b,h⟩
  obtain⟨c,a,b,Ca⟩:=Hi;unfold okC at vT;rw[Ca] at vT;simp only[aI] at vT;obtain⟨⟨hnone,abT⟩,tv⟩:=vT;have Cb:mQ C.hs i=none:=by simpa using hnone
  have PI:=hop mN abT;cases KJ:Vn aM C o.after.toList c with
  |some t=>
   rw[KJ] at tv
   have hv:(yS P aM base C st i o).1=if t then DK aM base st o.after.toList a else DK aM base st o.after.toList b:=by
    unfold yS;rw[Cb,Ca];simp only[KJ];cases t<;>rfl
   cases t with
   |true=>
    rw[aI] at tv;have hrun:=sj (P:=P) (w:=w) Ca (PI.trans (oY.1 tv.1));refine hp Cb ev w _ _ hrun (post (fun d hd=>?_) (Tq w));rw[<-hval d hd,hv];exact hop mN tv.2
   |false=>
    rw[aI] at tv;have hrun:=sj (P:=P) (w:=w) Ca (PI.trans (oY.1 tv.1));refine hp Cb ev w _ _ hrun (post (fun d hd=>?_) (Tq w));rw[<-hval d hd,hv];exact hop mN tv.2
  |none=>
   rw[KJ] at tv;simp only[aI] at tv;obtain⟨⟨⟨⟨h1,h2⟩,h3⟩,h4⟩,h5⟩:=tv
   have hv:(yS P aM base C st i o).1=bools (DK aM base st o.after.toList c) (DK aM base st o.after.toList a) (DK aM base st o.after.toList b):=by
    unfold yS;rw[Cb,Ca];simp only[KJ]
   have ib:∀ {v:ai},isBool v=true->∃x,v=.bool x:=fun {v} h=>by cases v<;>first|exact⟨_,rfl⟩|cases h
   obtain⟨t,ht⟩:=ib h1;obtain⟨x,hx⟩:=ib h2;obtain⟨y,hy⟩:=ib h3
   have hw:∀q,t=q->mO st (QB aM o.after.toList c q ch)=true:=fun q hq=>by
    unfold QB;cases c<;>simp only[]<;>try exact mN
    rename_i tc;cases hs:yl aM o.after.toList tc with
    |none=>exact mN
    |some j=>
     have:(st j).2.1=.bool t:=by
      have:=ht;unfold DK at this;simp only[hs] at this;exact this
     unfold mO at mN ⊢;rw[ej,mN,this,hq];cases q<;>rfl
   have hrun:=sj (P:=P) (w:=w) Ca (PI.trans ht);refine hp Cb ev w _ _ hrun (post (fun d hd=>?_) (Tq w));rw[<-hval d hd,hv,ht,hx,hy];cases t with
   |true=>exact(hop (hw true rfl) h4).trans hx
   |false=>exact(hop (hw false rfl) h5).trans hy
 cases hgd:o.guard with
 |none=>
  exact go [] (by unfold Rm;rw[hgd]) rfl
 |some jb=>
  obtain⟨j,b⟩:=jb;simp only[];obtain⟨e,he,heb,rfl⟩:=DC dp ho hgd;have FV:=hdm e he heb;have hlt:=Gd.qW dp ho he heb;rw[uf (by omega)] at FV;obtain⟨hsome,rC⟩:=rC _ _ hgd;obtain⟨d0,hdd⟩:=Option.isSome_iff_exists.1 hsome;unfold yu at FV;rw[hdd] at FV;simp only[] at FV;generalize hvv:jw (some d0) ev=val at *;rw[hdd,hvv];cases hk:mQ C.lits e.on with
  |some b'=>
   have ajg:=oY.1 (rC _ hk);rw[ajg] at FV
   by_cases qG:b'=b
   .subst qG;have xX:Rm C st o=some (st e.on).1:=by unfold Rm;rw[hgd];simp only[hk];simp
    have XT:(st i).1=(st e.on).1:=by rw[hstep];unfold wF;rw[xX]
    refine⟨fun hv=>go _ xX ?_,fun hv=>post (fun d _=>?_) (Tq w)⟩
    .rw[hv] at FV;cases hcc:mO st (st e.on).1 with
     |true=>rfl
     |false=>rw[hcc] at FV;simp[Nk,au] at FV
    .rw[XT];cases hcc:mO st (st e.on).1 with
     |false=>rfl
     |true=>rw[hcc] at FV;exact absurd FV hv
   .have xX:Rm C st o=none:=by
     unfold Rm;rw[hgd];simp only[hk];have:(b'==b)=false:=beq_false_of_ne qG;rw[this];rfl
    have XT:st i=([],au,[]):=by rw[hstep];unfold wF;rw[xX]
    refine⟨fun hv=>?_,fun hv=>post (fun d _=>by rw[XT];rfl) (Tq w)⟩;exfalso;rw[hv] at FV;cases hcc:mO st (st e.on).1 with
    |true=>rw[hcc] at FV;simp[Nk] at FV;exact qG FV.symm
    |false=>rw[hcc] at FV;simp[Nk,au] at FV
  |none=>
   have xX:Rm C st o=some ((e.on,b)::(st e.on).1):=by unfold Rm;rw[hgd];simp only[hk]
   have XT:(st i).1=(e.on,b)::(st e.on).1:=by rw[hstep];unfold wF;rw[xX]
   have hca:mO st ((e.on,b)::(st e.on).1)=(Pt (st e.on).2.1 b&&mO st (st e.on).1):=by unfold mO;rw[ej]
   refine⟨fun hv=>go _ xX ?_,fun hv=>post (fun d _=>?_) (Tq w)⟩
   .rw[hca];rw[hv] at FV;cases hcc:mO st (st e.on).1 with
    |true=>
     rw[hcc] at FV;have h1:(st e.on).2.1=.bool b:=FV.symm;rw[h1];cases b<;>rfl
    |false=>rw[hcc] at FV;simp[Nk,au] at FV
   .rw[XT,hca];cases hcc:mO st (st e.on).1 with
    |false=>rw[Bool.and_false];rfl
    |true=>
     cases hib:Pt (st e.on).2.1 b with
     |false=>rfl
     |true=>
      rw[hcc,oY.1 hib] at FV;exact absurd FV hv
theorem Js{Y:mY}:∀ {i:Nat} {l:List cY} {Vs:List Pred},(∀j o,l[j]?=some o->Gd.RJ Y aM Vs S base (i+j) o)->Gd.Each Y aM Vs S base i l
 |_,[],_,_=>trivial
 |i,o::l,Vs,h=>⟨by have:=h 0 o (by simp);rwa [Nat.add_zero] at this,Js fun j o' hj=>by have:=h (j+1) o' (by simpa using hj);rwa [show i+(j+1)=i+1+j by omega] at this⟩
def Mh(P:aK)(aM:Array cY)(n:Nat)(base:List (j5 × ai))(C:Cf)(outs:List (j5 × ai)):Bool × List (List Nat) × List (Option ai):=
 (ji aM n base&&Xd P aM base C (oy P aM base C) 0 aM.toList,ldL (oy P aM base C) 0 aM.toList,outs.map fun p=>YE (oy P aM base C) p.1 aM.toList 0)
def Dg(P:aK)(aM:Array cY)(base:List (j5 × ai))(C:Cf)(outs:List (j5 × ai)):Bool × List (List Nat) × List (Option ai):=(true,ldR C (oy P aM base C) 0 aM.toList,outs.map fun p=>some p.2)
theorem Jw(XZ:∀w w',S w->Bw w w'->S w')(hr:Mh P aM n base C outs=Dg P aM base C outs)(hm:oA S C.mem)(hh:Oe aM base (fun _=>mP P) S (oy P aM base C) C.hs) :
  Gd.Each (Yields P) aM (qj aM (oy P aM base C)) S base 0 aM.toList:=by
 unfold Mh Dg at hr;rw[iA,iA,aI] at hr;obtain⟨⟨dp,hck⟩,Te,-⟩:=hr;refine Js fun j o hj=>?_;rw[dz];exact Xk (T:=fun w w'=>Bw w w') XZ (fun w=>ay _ _) (by simpa using hj) (fun _ ev w R v hrun hR=>.value hrun hR) (fun ev w v R _ hg hR=>hg.yields hR) dp hck Te hm hh
theorem yr{st:Nat->En}:jy S (qj aM st):=by
 unfold qj
 have:∀l:List Nat,jy S (l.map (yu aM st)):=fun l=>by
  induction l with
  |nil=>trivial
  |cons i l ih=>
   exact⟨fun u ds w w' _ h _=>Fu h,ih⟩
 exact this _
theorem QQ{st:Nat->En}{t:j5}{v:ai}:∀ {l:List cY} {i:Nat},YE st t l i=some v->∃j o,l[j]?=some o/\o.dst=some t/\(st (i+j)).1=[]/\(st (i+j)).2.1=v
 |o::l,i,h=>by
  unfold YE at h;cases hb:eqT o.dst t with
  |true=>
   rw[hb] at h;simp only[cond_true] at h;cases hs:(st i).1 with
   |nil=>
    rw[hs] at h;refine⟨0,o,rfl,?_,hs,by simpa using h⟩;cases hd:o.dst with
    |none=>rw[hd] at hb;cases hb
    |some d=>rw[hd] at hb;rw[iJ hb]
   |cons _ _=>rw[hs] at h;cases h
  |false=>
   rw[hb] at h;obtain⟨j,o',h1,h2,h3,h4⟩:=QQ h;exact⟨j+1,o',by simpa using h1,h2,by rwa [show i+(j+1)=i+1+j by omega],by rwa [show i+(j+1)=i+1+j by omega]⟩
theorem GI{a0 a:jY}{w:ak}(hF:iw n a0 base)(hr:Mh P aM n base C outs=Dg P aM base C outs)(h:jq aM (qj aM (oy P aM base C)) S a0 (Array.replicate aM.size true) a w):iw n a (outs++base):=by
 unfold Mh Dg at hr;rw[iA,iA,aI] at hr;obtain⟨⟨dp,-⟩,-,hout⟩:=hr
 have VX:iw n a base:=⟨h.size.trans hF.size,h.defers.trans hF.defers,hF.base.congr fun p hp=>h.keep _ fun o' ho' hd=>by
  obtain⟨k,hk,rfl⟩:=List.getElem_of_mem ho';have rU:k<aM.size:=by simpa using hk
  unfold ji at dp;rw[aI,a7] at dp;have h3:=dp.1 k (bO.2 rU);rw[aN rU] at h3;simp only[Array.getElem_toList] at hd;simp only[aI,hd] at h3;have:=a7.1 h3.1.2.1.2 p hp
  simp at this⟩
 refine⟨VX.size,VX.defers,?_⟩
 induction outs with
 |nil=>exact VX.base
 |cons p l ih=>
  rw[cV,cV,BD] at hout;refine⟨?_,ih hout.2⟩;obtain⟨j,o,h1,h2,h3,h4⟩:=QQ hout.1;rw[dz] at h3 h4
  have hj:j<aM.size:=by
   have:=(lI.1 h1).1;simpa using this
  have hv:=h.vals j (by simp[Array.getD,hj]);have Om:eC aM j=some p.1:=by unfold eC;rw[show aM[j]?=some o by simpa using h1];exact h2
  rw[uf hj] at hv;unfold yu at hv;rw[Om] at hv;simp only[jw] at hv;rw[hv,h3,h4];rfl
theorem QN(hr:Mh P aM n base C outs=Dg P aM base C outs):ji aM n base=true:=by
 unfold Mh Dg at hr;rw[iA,aI] at hr;exact hr.1.1
def uK(K:List (j5 × ai)->Prop):List (j5 × ai)->List (j5 × ai)->Prop
 |[],l=>K l
 |p::r,l=>uK K r (p::l)
theorem uK.get{K:List (j5 × ai)->Prop}:∀ {r l:List (j5 × ai)},uK K r l->K (r.reverse++l)
 |[],l,h=>h
 |p::r,l,h=>by have:=uK.get (r:=r) h;simpa using this
theorem iw.rev{n:Nat}{a:jY}{r l:List (j5 × ai)}(h:iw n a (r++l)):iw n a (r.reverse++l):=by
 refine⟨h.size,h.defers,?_⟩;have h1:=h.base;clear h
 have iff:∀(ev:bI->ai) (l:List (j5 × ai)),gi ev l↔∀p∈l,ev (.tmp p.1)=p.2:=fun ev l=>by
  induction l with
  |nil=>simp[gi]
  |cons p l ih=>simp[gi,ih]
 rw[iff] at *;intro p hp;refine h1 p ?_;simp at hp ⊢;exact hp
variable{Q:Exit->jY->ak->Prop}
theorem DV(hmx:P.follows .mixedOrders=true)(C:Cf)(outs:List (j5 × ai)){id:Nat}{y:Code}{a0:jY}{W:ak}(hF:iw n a0 base)(hm:oA (fun w=>Bw W w) C.mem)(hh:Oe aM base (fun _=>mP P) (fun w=>Bw W w) (oy P aM base C) C.hs)(hy:uK (fun l=>∀a w,Bw W w->iw n a l->y.wp P Q a w) outs base)(hr:Mh P aM n base C outs=Dg P aM base C outs:=by kernel_rfl):(Code.seq (.region id aM true) y).wp P Q a0 W:=
 Jt hmx _ base (QN hr) hF.size hF.base yr (Jw (fun _ _ h hb=>h.trans (hb.mono h.size)) hr hm hh) fun a w h=>hy.get a w h.s (GI hF hr h).rev
theorem Qf(hmx:P.follows .mixedOrders=true)(C:Cf)(outs:List (j5 × ai)){id:Nat}{a0:jY}{W:ak}(hF:iw n a0 base)(hm:oA (fun w=>Bw W w) C.mem)(hh:Oe aM base (fun _=>mP P) (fun w=>Bw W w) (oy P aM base C) C.hs)(hy:uK (fun l=>∀a w,Bw W w->iw n a l->Q .normal a w) outs base)(hr:Mh P aM n base C outs=Dg P aM base C outs:=by kernel_rfl):(CV id aM true).wp P Q a0 W:=
 agB hmx _ base (QN hr) hF.size hF.base yr (Jw (fun _ _ h hb=>h.trans (hb.mono h.size)) hr hm hh) fun a w h=>hy.get a w h.s (GI hF hr h).rev
variable{s:iZ Next}{w:ak}{v:ai}
theorem gc{f:FuncId}{args:Array ai}(h:bm P f args w fun e w'=>e=.returned v/\Bw w w')(he:look P #[] s=some (.enter f args,[]):=by kernel_rfl):mP P s w v:=by
 unfold mP;rw[mX he (by simp)];exact⟨rfl,h⟩
theorem ge{u:ai}(h:u=v)(he:look P #[] s=some (.value u,[]):=by kernel_rfl):mP P s w v:=by
 unfold mP;rw[mX he (by simp)];exact⟨h,ay _ _⟩
theorem gs(s':iZ ai)(h:s'.run P w=.ok v w)(he:s=(do pure (.value (<-s'))):=by kernel_rfl):mP P s w v:=by
 unfold mP;rw[he,Sem.run_bind,h];exact⟨rfl,ay _ _⟩
theorem gr(h:s.run P w=.ok (.value v) w):mP P s w v:=by
 unfold mP;rw[h];exact⟨rfl,ay _ _⟩
def Vm(P:aK)(v:ai):iZ Next->Option (dc × Option (Next × List Nat))
 |.load _ a k=>some (a,look P #[] (k v))
 |.program k=>Vm P v (k P)
 |_=>none
theorem gl{a:dc}(h:w.cell? a=some v)(he:Vm P v s=some (a,some (.value v,[])):=by kernel_rfl):mP P s w v:=by
 refine gr ?_
 induction s with
 |load m b k _=>
  unfold Vm at he;simp only[ia,iA] at he;obtain⟨rfl,he⟩:=he
  conv=>lhs;unfold Sem.run
  rw[h];exact mX he (by simp)
 |program k ih=>exact ih P he
 |_=>cases he
end
end Go.Lag
namespace Go.Proofs.YtffladgmkiimjaaGreatDoor
open Go Go.RowKit Go.Lag Go.ChangeShapes Go.WideShapes
def akv:Tryz.prog.cellTypes Tryz.prog.depth 28=some [3,3,3,3,3,3,3,3,3,3,3,3,24,25,26]:=kQ
def akA:Tryz.prog.cellsOf 28=15:=kQ
def akx:Tryz.prog.cellsOf 79=3:=kQ
def SliceAt(W:ak)(v:ai):Prop:=v=.slice none 0 0\/∃g off n c,v=.slice (some ⟨g,off,none⟩) n c/\n<=c/\g<W.heap.size
def LW{W:ak}{base:Nat}{t e:aV}{v:ai}(ht:Tryz.prog.underlying t=some (.slice e))(h:Cell.okWide aq W .any base t v):SliceAt W v:=by
 unfold Cell.okWide Cell.ok at h;rw[ht] at h;cases v<;>simp only at h<;>try exact h.elim
 rename_i p n c;cases p with
 |none=>
  cases n<;>cases c<;>simp only at h<;>first|exact h.elim|exact .inl rfl
 |some a=>
  obtain⟨h1,h2,-,h3,row,cells,h4,-⟩:=h;obtain⟨b,o,s⟩:=a;cases h3;refine .inr ⟨b,o,n,c,rfl,h1,?_⟩;unfold World.shape? at h4
  by_cases hb:b<W.heap.size
  .exact hb
  rw[fS (show W.heap.size<=b from Nat.le_of_not_lt hb)] at h4;simp at h4
def Vw{W:ak}{base:Nat}{t:aV}{k:IntKind}{v:ai}(ht:Tryz.prog.underlying t=some (.int k))(h:Cell.okWide aq W .any base t v):∃x,v=.int k x/\k.has x:=by
 unfold Cell.okWide Cell.ok at h;rw[ht] at h;cases v<;>simp only at h<;>try exact h.elim
 obtain⟨rfl,h⟩:=h;exact⟨_,rfl,h⟩
def ZH{W:ak}{base:Nat}{v:ai}(h:Value.okWide aq W .any base 28 v):∃(b:BB) (m s k:ai),v=.agg (b.cells m s k)/\SliceAt W m/\SliceAt W s/\SliceAt W k:=by
 unfold Value.okWide at h;rw[cF] at h;obtain⟨cs,rfl,hc,ts,hts,-,hall⟩:=h;rw[akv] at hts;cases hts;rw[akA] at hc
 have hi:∀i (h:i<12),∃x,cs[i]?=some (.int .i64 x):=by
  intro i h;have hl:i<cs.size:=oM;obtain⟨u,hu,dp⟩:=hall i _ (aN hl)
  have h3:u=3:=by
   rw[Nat.mod_eq_of_lt sO] at hu
   match i,h,hu with
   |0,_,hu|1,_,hu|2,_,hu|3,_,hu|4,_,hu|5,_,hu|6,_,hu|7,_,hu|8,_,hu|9,_,hu|10,_,hu|11,_,hu=>simpa using hu.symm
  subst h3;obtain⟨x,hx,-⟩:=Vw eR dp;exact⟨x,(aN hl).trans (congrArg some hx)⟩
 have hs:∀i t (h:i<15),[3,3,3,3,3,3,3,3,3,3,3,3,24,25,26][i]?=some t->∀e,Tryz.prog.underlying t=some (.slice e)->∃x,cs[i]?=some x/\SliceAt W x:=by
  intro i t h ht e he;have hl:i<cs.size:=oM;obtain⟨u,hu,dp⟩:=hall i _ (aN hl);rw[Nat.mod_eq_of_lt (by simpa using h),ht] at hu;cases hu;exact⟨_,aN hl,LW he dp⟩
 obtain⟨x0,e0⟩:=hi 0 oM;obtain⟨x1,e1⟩:=hi 1 oM;obtain⟨x2,e2⟩:=hi 2 oM;obtain⟨x3,e3⟩:=hi 3 oM;obtain⟨x4,e4⟩:=hi 4 oM;obtain⟨x5,e5⟩:=hi 5 oM;obtain⟨x6,e6⟩:=hi 6 oM;obtain⟨x7,e7⟩:=hi 7 oM;obtain⟨x8,e8⟩:=hi 8 oM;obtain⟨x9,e9⟩:=hi 9 oM;obtain⟨qY,Eh⟩:=hi 10 oM;obtain⟨qX,e11⟩:=hi 11 oM;obtain⟨m,Uj,hm⟩:=hs 12 24 oM rfl _ Tryz.underlying24;obtain⟨s,e13,hs'⟩:=hs 13 25 oM rfl _ Tryz.underlying25;obtain⟨k,EI,hk⟩:=hs 14 26 oM rfl _ Tryz.underlying26;refine⟨⟨x0,x1,x2,x3,x4,x5,x6,x7,x8,x9,qY,qX⟩,m,s,k,?_,hm,hs',hk⟩
 congr 1
 apply Array.ext';apply List.ext_getElem?;intro i
 by_cases h:i<15
 .rw[Array.getElem?_toList,Array.getElem?_toList]
  match i,h with
  |0,_=>exact e0
  |1,_=>exact e1
  |2,_=>exact e2
  |3,_=>exact e3
  |4,_=>exact e4
  |5,_=>exact e5
  |6,_=>exact e6
  |7,_=>exact e7
  |8,_=>exact e8
  |9,_=>exact e9
  |10,_=>exact Eh
  |11,_=>exact e11
  |12,_=>exact Uj
  |13,_=>exact e13
  |14,_=>exact EI
 rw[Array.getElem?_toList,Array.getElem?_toList,fS oM,fS sO]
def Xe{W:ak}{base:Nat}{a:dc}{cs:List ai}(h:W.cells? base a 3=some cs):∃x y z,cs=[x,y,z]/\W.cell? (a.add 0)=some x/\W.cell? (a.add 1)=some y/\W.cell? (a.add 2)=some z:=by
 unfold World.cells? at h;split at h
 .simp only[show aP 3=[0,1,2] from rfl,List.mapM_cons,List.mapM_nil] at h;cases h0:W.cell? (a.add 0)<;>rw[h0] at h<;>simp at h;cases h1:W.cell? (a.add 1)<;>rw[h1] at h<;>simp at h;cases h2:W.cell? (a.add 2)<;>rw[h2] at h<;>simp at h;exact⟨_,_,_,h.symm,rfl,rfl,rfl⟩
 cases h
def qc(g off k:Nat):(⟨g,off,none⟩:dc).add k=⟨g,off+k,none⟩:=by
 unfold Addr.add;split
 .rename_i h;rw[h];rfl
 rfl
section
variable{H:Type}{enc:aV × ai->H}{W:ak}{sp:Nat->Bool}{hd:Bool}
theorem Qg{fuel:Nat}{b:BB}{m s k:ai}{x:DataW H × List MemPlace}(h:DataW.trod enc aq W 0 sp hd fuel 28 (b.cells m s k).toList=some x) :
  (∃n y,DataW.trod enc aq W 0 sp hd n 24 [m]=some y)/\(∃n y,DataW.trod enc aq W 0 sp hd n 25 [s]=some y)/\(∃n y,DataW.trod enc aq W 0 sp hd n 26 [k]=some y):=by
 obtain⟨xs,n,-,-,-,hlen,hf⟩:=DataW.trod_struct cF h;have h10:=hf 10 _ rfl;have h11:=hf 11 _ rfl;have PV:=hf 12 _ rfl;have hl:xs.length=13:=hlen;have Rz:Tryz.prog.cellsOf 24=1:=kQ;have c25:Tryz.prog.cellsOf 25=1:=kQ;have c26:Tryz.prog.cellsOf 26=1:=kQ;rw[List.getElem?_eq_getElem oM] at h10 h11 PV;simp only[Rz,c25,c26] at h10 h11 PV;exact⟨⟨n,_,h10⟩,⟨n,_,h11⟩,⟨n,_,PV⟩⟩
theorem Vi{fuel:Nat}{g off n c:Nat}{x:DataW H × List MemPlace}(wA:n<=c)(h:DataW.trod enc aq W 0 (fun _=>true) hd fuel 24 [.slice (some ⟨g,off,none⟩) n c]=some x) :
  ∀i,i<n->∃mn:Mn,W.cell? ⟨g,off+i*3,none⟩=some (.string mn.name)/\W.cell? ⟨g,off+i*3+1,none⟩=some (.int .i64 mn.lo)/\W.cell? ⟨g,off+i*3+2,none⟩=some (.int .i64 mn.hi):=by
 intro i hi;rcases Go.Deep.open_slice Tryz.underlying24 h with⟨h0,-⟩|⟨a,len,cap,mm,nn,D,Pl,h0,-,-,-,hm,-,hel⟩
 .cases h0
 cases h0;obtain⟨cs',hc,ht⟩:=hel i (by rw[hm];simp;omega);rw[akx] at hc;obtain⟨x,y,z,rfl,e0,e1,e2⟩:=Xe hc;rw[qc,qc] at e0 e1 e2;obtain⟨y0,y1,n1,-,-,t0,t1⟩:=trod_struct2 Tryz.underlying79 ht;have c9:Tryz.prog.cellsOf 9=1:=kQ;have c23:Tryz.prog.cellsOf 23=2:=kQ;have c3:Tryz.prog.cellsOf 3=1:=kQ;simp only[c9,c23] at t0 t1;obtain⟨z0,z1,n2,-,-,u0,u1⟩:=trod_struct2 Tryz.underlying23 t1;simp only[c3] at u0 u1;obtain⟨s,hs,-⟩:=DataW.trod_string Tryz.underlying9 t0;obtain⟨lo,hlo,-⟩:=DataW.trod_int eR u0;obtain⟨hi',hhi,-⟩:=DataW.trod_int eR u1;simp at hs hlo hhi;subst hs;subst hlo;subst hhi;exact⟨⟨s,lo,hi'⟩,e0,e1,e2⟩
end
def Sy{W:ak}{g off n c:Nat}(wA:n<=c)(hg:g<W.heap.size)(hn:n<=20)(h:∀i,i<n->∃mn:Mn,W.cell? ⟨g,off+i*3,none⟩=some (.string mn.name)/\W.cell? ⟨g,off+i*3+1,none⟩=some (.int .i64 mn.lo)/\W.cell? ⟨g,off+i*3+2,none⟩=some (.int .i64 mn.hi)) :
  ∃ml:List Mn,ml.length=n/\Reads W (.slice (some ⟨g,off,none⟩) n c) n (dX ml):=by
 obtain⟨f,hf⟩:∃f:Nat->Mn,∀i,i<n->W.cell? ⟨g,off+i*3,none⟩=some (.string (f i).name)/\W.cell? ⟨g,off+i*3+1,none⟩=some (.int .i64 (f i).lo)/\W.cell? ⟨g,off+i*3+2,none⟩=some (.int .i64 (f i).hi):=
  ⟨fun i=>if hi:i<n then(h i hi).choose else⟨⟨#[]⟩,0,0⟩,fun i hi=>by simp only[dif_pos hi];exact(h i hi).choose_spec⟩
 refine⟨(aP n).map f,sM,.inr ⟨g,off,c,rfl,⟨oM,wA⟩,hg,fun j u hj=>?_⟩⟩;have M6:j<(dX ((aP n).map f)).length:=(lI.1 hj).1;rw[t_] at M6;simp at M6;have hk:j / 3<n:=oM;have e:j=3*(j / 3)+j % 3:=oM;rw[e,nC _ _ _ (by simpa using hk) oM] at hj;obtain⟨h0,h1,h2⟩:=hf (j / 3) hk;simp only[List.getElem_map,List.getElem_range] at hj;have h3:j % 3<3:=Nat.mod_lt _ dC;rw[show off+j=off+(j / 3)*3+j % 3 by omega]
 match j % 3,h3,hj with
 |0,_,hj=>simp at hj;subst hj;exact h0
 |1,_,hj=>simp at hj;subst hj;exact h1
 |2,_,hj=>simp at hj;subst hj;exact h2
def Vl{w:ak}{B C g off L cap j:Nat}{n lo hi:Int}{b:BB}{bn aL az:ai}(h:w.heap[B]?=some (ar (b.cells bn aL az) 119 (0,0)))(hC:w.cell? ⟨C,0,none⟩=some (ae (some ⟨g,off,none⟩) L cap))(Ts:C<w.heap.size)(hg:g<w.heap.size)(hn:w.cell? ⟨g,off+j,none⟩=some (ah af n)){w':ak}(hb:gu (w.heap.size+1) (w.alloc (ar #[ah af ((j:Int)+1),ah af lo,ah af hi] 81)) w'):(w'.cell? ⟨B,0,none⟩=some (ah af b.room)/\w'.cell? ⟨B,1,none⟩=some (ah af b.depth)/\w'.cell? ⟨B,2,none⟩=some (ah af b.least)/\w'.cell? ⟨B,3,none⟩=some (ah af b.minutes)/\w'.cell? ⟨B,4,none⟩=some (ah af b.cI)/\w'.cell? ⟨B,5,none⟩=some (ah af b.jP)/\w'.cell? ⟨B,6,none⟩=some (ah af b.ey)/\w'.cell? ⟨B,7,none⟩=some (ah af b.iC)/\w'.cell? ⟨B,8,none⟩=some (ah af b.ll)/\w'.cell? ⟨B,9,none⟩=some (ah af b.lm)/\w'.cell? ⟨B,10,none⟩=some (ah af b.pl)/\w'.cell? ⟨B,11,none⟩=some (ah af b.pm)/\w'.cell? ⟨B,12,none⟩=some (bn)/\w'.cell? ⟨B,13,none⟩=some (aL)/\w'.cell? ⟨B,14,none⟩=some (az)/\w'.cell? ⟨C,0,none⟩=some (ae (some ⟨g,off,none⟩) L cap)/\w'.cell? ⟨g,off+j,none⟩=some (ah af n)/\w'.cell? ⟨w.heap.size,0,none⟩=some (ah af ((j:Int)+1))/\w'.cell? ⟨w.heap.size,1,none⟩=some (ah af lo)/\w'.cell? ⟨w.heap.size,2,none⟩=some (ah af hi))/\gu (w.heap.size+1) (w.alloc (ar #[ah af ((j:Int)+1),ah af lo,ah af hi] 81)) w':=by
 have hBl:B<w.heap.size:=(ag.1 h).1;have h':w'.heap[B]?=some (ar (b.cells bn aL az) 119 (0,0)):=by rw[hb.block B oM,aY _ _ _ hBl];exact h
 have hnew:w'.heap[w.heap.size]?=some (ar #[ah af ((j:Int)+1),ah af lo,ah af hi] 81 (0,0)):=by rw[hb.block w.heap.size oM];exact aw w _
 obtain⟨x0,x1,x2,x3,x4,x5,x6,x7,x8,x9,qY,qX,r8,rT,rW⟩:=bZ h';refine⟨⟨x0,x1,x2,x3,x4,x5,x6,x7,x8,x9,qY,qX,r8,rT,rW,?_,?_,?_,?_,?_⟩,hb⟩
 .exact(hb.cell (p:=⟨C,0,none⟩) (by show C<_;omega)).trans ((eI _ _ _ Ts).trans hC)
 .exact(hb.cell (p:=⟨g,off+j,none⟩) (by show g<_;omega)).trans ((eI _ _ _ hg).trans hn)
 .simp[dU,hnew]
 .simp[dU,hnew]
 simp[dU,hnew]
def FM{w:ak}{B C g off L cap j:Nat}{n lo hi:Int}{b:BB}{bn aL az:ai}(h:w.heap[B]?=some (ar (b.cells bn aL az) 119 (0,0)))(hC:w.cell? ⟨C,0,none⟩=some (ae (some ⟨g,off,none⟩) L cap))(Ts:C<w.heap.size)(hg:g<w.heap.size)(hn:w.cell? ⟨g,off+j,none⟩=some (ah af n)){w1 w':ak}(hb:gu (w.heap.size+1) (w.alloc (ar #[ah af ((j:Int)+1),ah af lo,ah af hi] 81)) w1)(hb2:Bw w1 w'):(w'.cell? ⟨B,0,none⟩=some (ah af b.room)/\w'.cell? ⟨B,1,none⟩=some (ah af b.depth)/\w'.cell? ⟨B,2,none⟩=some (ah af b.least)/\w'.cell? ⟨B,3,none⟩=some (ah af b.minutes)/\w'.cell? ⟨B,4,none⟩=some (ah af b.cI)/\w'.cell? ⟨B,5,none⟩=some (ah af b.jP)/\w'.cell? ⟨B,6,none⟩=some (ah af b.ey)/\w'.cell? ⟨B,7,none⟩=some (ah af b.iC)/\w'.cell? ⟨B,8,none⟩=some (ah af b.ll)/\w'.cell? ⟨B,9,none⟩=some (ah af b.lm)/\w'.cell? ⟨B,10,none⟩=some (ah af b.pl)/\w'.cell? ⟨B,11,none⟩=some (ah af b.pm)/\w'.cell? ⟨B,12,none⟩=some (bn)/\w'.cell? ⟨B,13,none⟩=some (aL)/\w'.cell? ⟨B,14,none⟩=some (az)/\w'.cell? ⟨C,0,none⟩=some (ae (some ⟨g,off,none⟩) L cap)/\w'.cell? ⟨g,off+j,none⟩=some (ah af n)/\w'.cell? ⟨w.heap.size,0,none⟩=some (ah af ((j:Int)+1))/\w'.cell? ⟨w.heap.size,1,none⟩=some (ah af lo)/\w'.cell? ⟨w.heap.size,2,none⟩=some (ah af hi))/\gu (w.heap.size+1) (w.alloc (ar #[ah af ((j:Int)+1),ah af lo,ah af hi] 81)) w':=
 Vl h hC Ts hg hn (hb.trans (hb2.mono (by have:=hb.size;simpa using this)))
def Kr(b:BB)(hb:b.Ok)(bn aL az:ai)(lo hi n:Int)(Za:0<=n/\n<=999)(B C g off L cap j:Nat)(w:ak)(h:w.heap[B]?=some (ar (b.cells bn aL az) 119 (0,0)))(hC:w.cell? ⟨C,0,none⟩=some (ae (some ⟨g,off,none⟩) L cap))(Ts:C<w.heap.size)(hg:g<w.heap.size)(hn:w.cell? ⟨g,off+j,none⟩=some (ah af n))(hj:j<L)(hL:L<=1000) :
  bm aq 176 #[aO #[ah af ((j:Int)+1),ah af lo,ah af hi],fP (some ⟨B,0,none⟩),fP (some ⟨C,0,none⟩)] w (Rt w (aH (!aS (b.WW n) lo hi))):=by
 have HK:=aj h;have HC:=aj hC;have HN:=aj hn;have hjj:IntKind.i64.wrap ((j:Int)+1-1)=(j:Int):=by rw[show(j:Int)+1-1=(j:Int) by omega];exact fO _ oM oM
 have hj1:(j:Int)<(L:Int):=oM;have hj2:(j:Int)<=(L:Int):=oM;have hj0:(0:Int)<=(j:Int):=oM;have hjw:IntKind.i64.wrap (j:Int)=(j:Int):=fO _ oM oM;clear h hC hn
 go_enter Tryz.func176,Tryz.ntmps176
 go_wp2
 go_region_held3 (fun w'=>(w'.cell? ⟨B,0,none⟩=some (ah af b.room)/\w'.cell? ⟨B,1,none⟩=some (ah af b.depth)/\w'.cell? ⟨B,2,none⟩=some (ah af b.least)/\w'.cell? ⟨B,3,none⟩=some (ah af b.minutes)/\w'.cell? ⟨B,4,none⟩=some (ah af b.cI)/\w'.cell? ⟨B,5,none⟩=some (ah af b.jP)/\w'.cell? ⟨B,6,none⟩=some (ah af b.ey)/\w'.cell? ⟨B,7,none⟩=some (ah af b.iC)/\w'.cell? ⟨B,8,none⟩=some (ah af b.ll)/\w'.cell? ⟨B,9,none⟩=some (ah af b.lm)/\w'.cell? ⟨B,10,none⟩=some (ah af b.pl)/\w'.cell? ⟨B,11,none⟩=some (ah af b.pm)/\w'.cell? ⟨B,12,none⟩=some (bn)/\w'.cell? ⟨B,13,none⟩=some (aL)/\w'.cell? ⟨B,14,none⟩=some (az)/\w'.cell? ⟨C,0,none⟩=some (ae (some ⟨g,off,none⟩) L cap)/\w'.cell? ⟨g,off+j,none⟩=some (ah af n)/\w'.cell? ⟨w.heap.size,0,none⟩=some (ah af ((j:Int)+1))/\w'.cell? ⟨w.heap.size,1,none⟩=some (ah af lo)/\w'.cell? ⟨w.heap.size,2,none⟩=some (ah af hi))/\gu (w.heap.size+1) (w.alloc (ar #[ah af ((j:Int)+1),ah af lo,ah af hi] 81)) w')
  (first|exact Vl HK.out HC.out Ts hg HN.out (ay _ _).drew|exact Vl HK.out HC.out Ts hg HN.out (ay _ _)|exact FM HK.out HC.out Ts hg HN.out (And.right (by assumption)) (by assumption)|exact FM HK.out HC.out Ts hg HN.out (And.right (by assumption)) (ay _ _))
  (first|(go_at_call 139;refine(KZ b hb bn aL az n Za _).mono ?_;rintro e w1 ⟨rfl,hb1⟩)|(go_at_call 138;refine(rA _ _ _ _).mono ?_;rintro e w1 ⟨rfl,rfl⟩))
 rename _/\_=>hS;have hBw:=hS.2;clear hS;go_wp2
 go_ret
 exact⟨rfl,dF.trans (hBw.mono oM)⟩
def BS(b:BB)(used:Int)(p:Nat)(ms:List Mk):Bool:=ms.all fun m=>aS (b.WW (b.Bx used p m.minute.toNat)) m.lo m.hi
def kg(b:BB)(used:Int)(p:Nat):List Mk->Nat->Int
 |[],_=>-1
 |m::r,k=>if aS (b.WW (b.Bx used p m.minute.toNat)) m.lo m.hi then kg b used p r (k+1) else k
def Hz(b:BB)(used:Int)(p:Nat)(xs:List Mk)(k:Nat)(hk:k<xs.length):kg b used p (xs.drop k) k=if aS (b.WW (b.Bx used p xs[k].minute.toNat)) xs[k].lo xs[k].hi then kg b used p (xs.drop (k+1)) (k+1) else(k:Int):=by
 rw[List.drop_eq_getElem_cons hk];rfl
def Ks(b:BB)(used:Int)(p:Nat)(xs:List Mk):kg b used p (xs.drop xs.length) xs.length = -1:=by simp[kg]
def Kt(b:BB)(used:Int)(p:Nat):∀(xs:List Mk) (k:Nat),decide (0<=kg b used p xs k) = !BS b used p xs:=by
 intro xs
 induction xs with
 |nil=>intro k;simp[kg,BS]
 |cons n r ih=>
  intro k;simp only[kg,BS,ej];split
  .rename_i h;rw[h,Bool.true_and];exact ih (k+1)
  rename_i h;simp at h;simp[h]
def HV(b:BB)(hb:b.Ok)(bn aL az:ai)(ms:List Mk)(hm:lN b ms)(used:Int)(hu:0<=used)(p:Nat)(v:ai)(B C g off L cap:Nat)(w:ak)(hv:Reads w v ms.length (ep ms))
  (lj:w.heap[B]?=some (ar (b.cells bn aL az) 119 (0,0))) (hC:w.cell? ⟨C,0,none⟩=some (ae (some ⟨g,off,none⟩) L cap)) (Ts:C<w.heap.size) (hg:g<w.heap.size) (hL:L=b.minutes.toNat) (hc:∀j u,((b.j9 used p b.minutes.toNat).map (ax af))[j]?=some u->w.cell? ⟨g,off+j,none⟩=some u) :
  bm aq 182 #[v,.func (.func 176) #[] #[fP (some ⟨B,0,none⟩),fP (some ⟨C,0,none⟩)]] w (Rt w (ah af (kg b used p ms 0))):=by
 have HK:=aj lj;have HC:=aj hC;have HP:=aj hc;have HM:=aj hm;have AB:=hb.minutes;have hlm:=hm.len;clear lj hC hc hm;rcases hv with⟨rfl,hn,hx0⟩|⟨gm,om,cm,rfl,hn,Zi,hcm⟩
 .obtain rfl:ms=[]:=a_ hn;clear hx0 hn
  go_enter Tryz.func182,Tryz.ntmps182
  go_wp2
  go_loopw [8] (fun i wr=>i=ah af 0/\Bw w wr) (fun _ _=>0)
  case atStart=>exact⟨rfl,ay _ _⟩
  case round=>
   obtain⟨rfl,eE⟩:=hrel;go_wp2
   go_ret
   exact⟨rfl,eE⟩
 have RO:=aj hcm;clear hcm;generalize hM:ms.length=M at *;have HL:=aj hM;clear hM
 go_enter Tryz.func182,Tryz.ntmps182
 go_wp2
 go_loopw [5,8] (fun _ i wr=>∃k:Nat,k<=M/\i=ah af k/\kg b used p ms 0=kg b used p (ms.drop k) k/\Bw w wr) (fun _ i _=>M-(intOf i).toNat)
 case atStart=>exact⟨0,oM,rfl,rfl,ay _ _⟩
 case round=>
  obtain⟨k,hk,rfl,lO,eE⟩:=hrel;have hB1:=eE.size
  by_cases hlt:k<M
  .have kq:k<ms.length:=by rw[HL.out];exact hlt
   obtain⟨y0,y1,y2⟩:=xJ (w:=wr) (fun j u hj=>(eE.cell (p:=⟨gm,om+j,none⟩) Zi).trans (RO.out j u hj)) k kq;have hx:=HM.out.mem ms[k] (List.getElem_mem kq);have hst:=Hz b used p ms k kq;rw[hst] at lO;clear hst;generalize ms[k]=x at *;obtain⟨mi,lo,hi⟩:=x;obtain⟨j,rfl⟩:∃j:Nat,mi=(j:Int)+1:=⟨(mi-1).toNat,by have:=hx.1;simp at this;omega⟩
   have hjm:j<b.minutes.toNat:=by have:=hx.2.1;simp at this;omega
   have Wb:=b.Ql hb hu p (j+1);have hcell:=HP.out j (ah af (b.Bx used p (j+1))) (by simp[BB.j9,hjm]);have hT:=Kr b hb bn aL az lo hi (b.Bx used p (j+1)) oM B C g off L cap j wr ((eE.block B (ag.1 HK.out).1).trans HK.out) ((eE.cell (p:=⟨C,0,none⟩) Ts).trans HC.out) oM oM ((eE.cell (p:=⟨g,off+j,none⟩) hg).trans hcell) oM oM;rw[show(Mk.minute ⟨(j:Int)+1,lo,hi⟩).toNat=j+1 by show((j:Int)+1).toNat=j+1;omega] at lO;simp only[] at y0 y1 y2 lO;clear hx Wb hcell hjm;cases hd:aS (b.WW (b.Bx used p (j+1))) lo hi
   .rw[hd] at hT;simp only[hd,bF,if_false] at lO;have HB:=aj lO;have HT:=aj hT;clear lO hT hd
    go_wp2_with (go_at_call 176;refine HT.out.mono ?_;rintro e w2 ⟨rfl,hb2⟩)
    go_ret
    exact⟨iH HB.out.symm,eE.trans (hb2.mono hB1)⟩
   rw[hd] at hT;simp only[hd,if_true] at lO;have HB:=aj lO;have HT:=aj hT;clear lO hT hd
   go_wp2_with (go_at_call 176;refine HT.out.mono ?_;rintro e w2 ⟨rfl,hb2⟩)
   go_roundw
   case rel=>exact⟨k+1,oM,by go_num,HB.out,eE.trans (hb2.mono hB1)⟩
   case measure=>simp[intOf];omega
  obtain rfl:k=M:=oM;have e1:kg b used p ms 0 = -1:=by rw[lO,<-HL.out];exact Ks b used p ms
  have HE:=aj e1;clear e1 lO;go_wp2
  go_ret
  exact⟨iH HE.out.symm,eE⟩
def Cm(b:BB)(hb:b.Ok)(bn aL az:ai)(ms:List Mk)(hm:lN b ms)(used:Int)(hu:0<=used)(p:Nat)(v:ai)(B C g off L cap:Nat)(w:ak)(hv:Reads w v ms.length (ep ms))
  (lj:w.heap[B]?=some (ar (b.cells bn aL az) 119 (0,0))) (hC:w.cell? ⟨C,0,none⟩=some (ae (some ⟨g,off,none⟩) L cap)) (Ts:C<w.heap.size) (hg:g<w.heap.size) (hL:L=b.minutes.toNat) (hc:∀j u,((b.j9 used p b.minutes.toNat).map (ax af))[j]?=some u->w.cell? ⟨g,off+j,none⟩=some u) :
  bm aq 175 #[v,.func (.func 176) #[] #[fP (some ⟨B,0,none⟩),fP (some ⟨C,0,none⟩)]] w (Rt w (aH (!BS b used p ms))):=by
 have hI:=HV b hb bn aL az ms hm used hu p v B C g off L cap w hv lj hC Ts hg hL hc;have hA:=Kt b used p ms 0;generalize kg b used p ms 0=q at *;have HI:=aj hI;have HA:=aj hA;clear hI hv lj hC hc hA
 go_enter Tryz.func175,Tryz.ntmps175
 go_wp2_with (go_at_call 182;refine HI.out.mono ?_;rintro e w2 ⟨rfl,hb2⟩)
 go_ret
 exact⟨rh HA.out,hb2⟩
def Fv(b:BB)(hb:b.Ok)(bn aL az:ai)(a:eV)(ha:a.Ok)(p:Nat)(hp:p<512)(w:ak) :
  bm aq 114 #[aO (b.cells bn aL az),aO a.cells,ah af p] w fun e w'=>∃g cap,∃cur:Array ai,e=aU (ae (some ⟨g,0,none⟩) b.minutes.toNat cap)/\w.heap.size<=g/\g<w'.heap.size/\b.minutes.toNat<=cap/\
   w'.heap[g]?=some (ar cur 3 (0,0))/\(∀(j:Nat) (u:ai),((b.j9 (b.cI+a.used) p b.minutes.toNat).map (ax af))[j]?=some u->cur[j]?=some u)/\Bw w w':=by
 refine(Af b hb bn aL az a ha p hp w).mono ?_;rintro e w1 ⟨v,rfl,hown,hb1⟩;have hm:=hb.minutes;rcases hown.2 with⟨h0,h1⟩|⟨g,cap,cur,rfl,h2,h3,h4,h5,h6,h7⟩
 .have:=(h1:b.minutes.toNat=0)
  omega
 refine⟨g,cap,cur,rfl,h2,(ag.1 h3).1,h4,h3,fun j u hj=>?_,hb1⟩;rw[<-h7,List.getElem?_take] at hj;split at hj
 .simpa using hj
 cases hj
def aF{W:ak}{B:Nat}{cs:Array ai}{t:aV}(h:W.heap[B]?=some (ar cs t (0,0)))(i:Nat)(u:ai)(hi:cs[i]?=some u):W.cell? ⟨B,i,none⟩=some u:=by
 simp[dU,h,hi]
def dm{W:ak}{B:Nat}{cs:Array ai}{t:aV}(h:W.heap[B]?=some (ar cs t (0,0)))(i:Nat):W.frozen? ⟨B,i,none⟩=false:=by
 simp[World.frozen?,h]
def C5{W:ak}{k:Nat}{z v:ai}{t:aV}(h:W.heap[k]?=some (ar #[z] t (0,0))):(W.setCell ⟨k,0,none⟩ v).heap[k]?=some (ar #[v] t (0,0)):=by
 obtain⟨hk,h⟩:=ag.1 h;simp[kJ,hk,h,CW]
structure Two(w:ak)(A:Array ai)(tA:aV)(B:Array ai)(tB:aV)(w':ak):Prop where
 one:w'.heap[w.heap.size]?=some (ar A tA (0,0))
 two:w'.heap[w.heap.size+1]?=some (ar B tB (0,0))
 below:Bw w w'
 size:w.heap.size+2<=w'.heap.size
def Two.mk'(w:ak)(A:Array ai)(tA:aV)(B:Array ai)(tB:aV):Two w A tA B tB ((w.alloc (ar A tA)).alloc (ar B tB)).drew:=
 ⟨(aY _ _ _ sM).trans (aw w _),by have:=aw (w.alloc (ar A tA)) (ar B tB);rwa [eD] at this,
  (((ay _ w).alloc (aJ _) _).alloc sM _).drew,by show _<=((w.alloc _).alloc _).heap.size;simp⟩
def Two.next{w:ak}{A:Array ai}{tA:aV}{B:Array ai}{tB:aV}{w1 w2:ak}(h:Two w A tA B tB w1)(hb:Bw w1 w2):Two w A tA B tB w2:=by
 have hs:=h.size;exact⟨(hb.block _ oM).trans h.one,(hb.block _ oM).trans h.two,h.below.trans (hb.mono oM),aG hs hb.size⟩
def Two.store{w:ak}{A:Array ai}{tA:aV}{B:Array ai}{tB:aV}{w1:ak}(h:Two w A tA B tB w1){k i:Nat}(hk:w.heap.size+2<=k)(u:ai):Two w A tA B tB (w1.setCell ⟨k,i,none⟩ u):=
 ⟨(aW _ _ _ _ (by show _≠k;omega)).trans h.one,(aW _ _ _ _ (by show _≠k;omega)).trans h.two,h.below.setCell (by show _<=k;omega) u,by simpa using h.size⟩
def Pj(b:BB)(hb:b.Ok)(bn aL az:ai)(ss:List Int)(hs:eG b ss)(ms:List Mk)(hm:lN b ms)(a:eV)(ha:a.Ok)(w:ak)(hvs:Reads w aL ss.length (ss.map (ax af)))(hvm:Reads w az ms.length (ep ms)) :
  bm aq 143 #[aO (b.cells bn aL az),aO a.cells] w (Rt w (aH (BS b (b.cI+a.used) (bE ss) ms))):=by
 have AB:=hb.minutes;have oK:∀s∈ss,1<=s/\s<=8:=fun s h=>by have:=hs.mem s h;omega
 have Hh:bE ss<512:=mV ss oK
 go_enter Tryz.func143,Tryz.ntmps143
 go_wp2
 refine cy kQ [
 pV (aO (b.cells bn aL az)),
  pV (aO a.cells),
  pV (pv w.heap.size 0),
  pV (pv w.heap.size 13),
  pV (aL),
  pV (ah af (bE ss)),
  fun v ds w9=>∃g cap,∃cur:Array ai,v=ae (some ⟨g,0,none⟩) b.minutes.toNat cap/\w.heap.size+2<=g/\b.minutes.toNat<=cap/\w9.heap[g]?=some (ar cur 3 (0,0))/\∀(j:Nat) (u:ai),((b.j9 (b.cI+a.used) (bE ss) b.minutes.toNat).map (ax af))[j]?=some u->cur[j]?=some u,
  fun v ds w9=>∃k z,v=pv k 0/\w.heap.size+2<=k/\w9.heap[k]?=some (ar #[z] 25 (0,0)),
  fun v ds w9=>∃k z,ds[0]?=some (pv k 0)/\ds[1]?=some z/\w9.heap[k]?=some (ar #[z] 25 (0,0))]
  (Two w (b.cells bn aL az) 119 a.cells 134) [(2,pv w.heap.size 0),(3,pv (w.heap.size+1) 0)] kQ ?rst (fun w1 w2 h hb=>h.next hb) (Two.mk' _ _ _ _ _) ⟨rfl,rfl,trivial⟩ ?reach ?rfin
 case rst=>
  refine⟨sV,sV,sV,sV,sV,sV,?_,?_,?_,trivial⟩
  .rintro v ds w1 w2 hS ⟨g,cap,cur,h1,h2,h3,h4,h5⟩ hb;exact⟨g,cap,cur,h1,h2,h3,(hb.block g (ag.1 h4).1).trans h4,h5⟩
  .rintro v ds w1 w2 hS ⟨k,z,h1,h2,h3⟩ hb;exact⟨k,z,h1,h2,(hb.block k (ag.1 h3).1).trans h3⟩
  rintro v ds w1 w2 hS ⟨k,z,h1,h2,h3⟩ hb;exact⟨k,z,h1,h2,(hb.block k (ag.1 h3).1).trans h3⟩
 case reach=>
  refine⟨?_,?_,?_,?_,?_,?_,?_,?_,?_,trivial⟩<;>rintro ev w1 hS hc hg hf ⟨b2,b3,-⟩ hd
  .have x0:=aF hS.one 0 _ rfl;have x1:=aF hS.one 1 _ rfl;have x2:=aF hS.one 2 _ rfl;have x3:=aF hS.one 3 _ rfl;have x4:=aF hS.one 4 _ rfl;have x5:=aF hS.one 5 _ rfl;have x6:=aF hS.one 6 _ rfl;have x7:=aF hS.one 7 _ rfl;have x8:=aF hS.one 8 _ rfl;have x9:=aF hS.one 9 _ rfl;have qY:=aF hS.one 10 _ rfl;have qX:=aF hS.one 11 _ rfl;have r8:=aF hS.one 12 _ rfl;have rT:=aF hS.one 13 _ rfl;have rW:=aF hS.one 14 _ rfl;exact tV
  .have y0:=aF hS.two 0 _ rfl;have y1:=aF hS.two 1 _ rfl;have y2:=aF hS.two 2 _ rfl;have y3:=aF hS.two 3 _ rfl;exact tV
  .exact tV
  .have d2:ev (.tmp 8)=_:=hd.1 rfl;exact tV
  .have d3:ev (.tmp 9)=_:=hd.1 rfl;have rT:=aF hS.one 13 _ rfl;exact tV
  .have d4:ev (.tmp 10)=_:=hd.1 rfl;refine yq (args:=#[aL]) (kW ss oK aL _ (hvs.below hS.below)) ?_ fun _=>rfl;go_simp
  .have d0:ev (.tmp 6)=_:=hd.1 rfl;have d1:ev (.tmp 7)=_:=hd.2.1 rfl;have d5:ev (.tmp 11)=_:=hd.2.2.1 rfl;refine Lag.Yields.call (f:=114) (args:=#[aO (b.cells bn aL az),aO a.cells,ah af (bE ss)]) ?_ (Fv b hb bn aL az a ha (bE ss) Hh _) ?_
   .go_simp
   rintro e w2 ⟨g,cap,cur,rfl,h1,h2,h3,h4,h5,h6⟩;exact⟨_,rfl,⟨g,cap,cur,rfl,aG hS.size h1,h3,h4,h5⟩,bV h6⟩
  .refine Lag.Yields.value (v:=pv w1.heap.size 0) (w':=w1.alloc (ar #[ae none 0 0] 25)) ?_ ⟨⟨_,_,rfl,hS.size,aw _ _⟩,bV dF⟩;go_simp
  obtain⟨k,z,e5,hk,hkb⟩:=hd.1 rfl;replace e5:ev (.tmp 5)=_:=e5;obtain⟨g,cap,cur,Uj,hg,hgc,hgb,rD⟩:=hd.2.1 rfl;replace Uj:ev (.tmp 12)=_:=Uj;have ED:g≠k:=by rintro rfl;rw[hgb] at hkb;cases hkb
  have c1:=aF hkb 0 _ rfl;have c2:=dm hkb 0;refine Lag.Yields.skip (w':=w1.setCell ⟨k,0,none⟩ (ae (some ⟨g,0,none⟩) b.minutes.toNat cap)) ?_ ⟨⟨k,_,congrArg some e5,congrArg some Uj,C5 hkb⟩,.inr ⟨hS.store hk _,?_⟩⟩
  .go_simp
  .intro j u ds hj hp
   match j,hp with
   |0,hp|1,hp|2,hp|3,hp|4,hp|5,hp=>exact hp
   |6,⟨g',cap',cur',h1,h2,h3,h4,h5⟩=>exact⟨g',cap',cur',h1,h2,h3,(aW _ _ _ _ (by rintro rfl;rw[h4] at hkb;cases hkb)).trans h4,h5⟩
   |7,⟨k',z',h1,h2,h3⟩=>
    by_cases tP:k'=k
    .subst tP;exact⟨k',_,h1,h2,C5 h3⟩
    exact⟨k',z',h1,h2,(aW _ _ _ _ tP).trans h3⟩
   |8,_=>exact(hj rfl).elim
   |j+9,_=>trivial
 case rfin=>
  intro a2 w2 hR;have hS:=hR.s;have e6:∃g cap,∃cur:Array ai,(a2.tmps.getD 12 au)=ae (some ⟨g,0,none⟩) b.minutes.toNat cap/\w.heap.size+2<=g/\b.minutes.toNat<=cap/\w2.heap[g]?=some (ar cur 3 (0,0))/\∀(j:Nat) (u:ai),((b.j9 (b.cI+a.used) (bE ss) b.minutes.toNat).map (ax af))[j]?=some u->cur[j]?=some u:=hR.val 6;have e7:∃k z,(a2.tmps.getD 5 au)=pv k 0/\w.heap.size+2<=k/\w2.heap[k]?=some (ar #[z] 25 (0,0)):=hR.val 7;have e8:∃k z,([a2.tmps.getD 5 au,a2.tmps.getD 12 au,a2.tmps.getD 12 au,a2.tmps.getD 6 au,a2.tmps.getD 7 au,a2.tmps.getD 8 au,a2.tmps.getD 9 au,a2.tmps.getD 10 au,a2.tmps.getD 11 au,a2.tmps.getD 12 au,a2.tmps.getD 5 au]:List ai)[0]?=some (pv k 0)/\([a2.tmps.getD 5 au,a2.tmps.getD 12 au,a2.tmps.getD 12 au,a2.tmps.getD 6 au,a2.tmps.getD 7 au,a2.tmps.getD 8 au,a2.tmps.getD 9 au,a2.tmps.getD 10 au,a2.tmps.getD 11 au,a2.tmps.getD 12 au,a2.tmps.getD 5 au]:List ai)[1]?=some z/\w2.heap[k]?=some (ar #[z] 25 (0,0)):=hR.val 8;have k0:a2.tmps.getD 0 au=aO (b.cells bn aL az):=hR.kept kQ;have k1:a2.tmps.getD 1 au=aO a.cells:=hR.kept kQ;have k2:a2.tmps.getD 2 au=pv w.heap.size 0:=hR.kept kQ;have k3:a2.tmps.getD 3 au=pv (w.heap.size+1) 0:=hR.kept kQ;have k4:a2.tmps.getD 4 au=aH false:=hR.kept kQ;have ha_:a2=⟨#[a2.tmps.getD 0 au,a2.tmps.getD 1 au,a2.tmps.getD 2 au,a2.tmps.getD 3 au,a2.tmps.getD 4 au,a2.tmps.getD 5 au,a2.tmps.getD 6 au,a2.tmps.getD 7 au,a2.tmps.getD 8 au,a2.tmps.getD 9 au,a2.tmps.getD 10 au,a2.tmps.getD 11 au,a2.tmps.getD 12 au,a2.tmps.getD 13 au,a2.tmps.getD 14 au,a2.tmps.getD 15 au,a2.tmps.getD 16 au,a2.tmps.getD 17 au,a2.tmps.getD 18 au],[]⟩:=hR.act;clear hR;obtain⟨k,z,h5,hk,hkb⟩:=e7;obtain⟨g,cap,cur,PV,hg,hgc,hgb,rD⟩:=e6;obtain⟨k',z',h5',agb,hkb'⟩:=e8;have q1:k'=k:=by have:=h5.symm.trans (aT h5');simpa using this.symm
  have q2:z'=ae (some ⟨g,0,none⟩) b.minutes.toNat cap:=(aT agb).symm.trans PV;subst q1;subst q2;have afl:=aF hS.one 14 _ rfl;have amg:=hS.one;have hk2:=aF hkb' 0 _ rfl
  have hcon:=Cm b hb bn aL az ms hm (b.cI+a.used) (by have:=hb.cI;have:=ha.leak;have:=ha.m0;have:=ha.m1;have:=ha.m2;simp only[eV.used];omega) (bE ss) az w.heap.size k' g 0 b.minutes.toNat cap w2 (hvm.below hS.below) hS.one (aF hkb' 0 _ rfl) (ag.1 hkb').1 (ag.1 hgb).1 rfl
   (fun j u hj=>aF hgb _ _ (by rw[dz];exact rD j u hj))
  have tE:=hS.below;rw[k0,k1,k2,k3,k4,h5] at ha_;clear rD hS hvs hvm h5' agb PV h5 k0 k1 k2 k3 k4 hgb hkb hkb';generalize a2.tmps.getD 6 au=t6,a2.tmps.getD 7 au=t7,a2.tmps.getD 8 au=t8,a2.tmps.getD 9 au=t9,a2.tmps.getD 10 au=t10,a2.tmps.getD 11 au=t11,a2.tmps.getD 12 au=t12,a2.tmps.getD 13 au=t13,a2.tmps.getD 14 au=t14,a2.tmps.getD 15 au=t15,a2.tmps.getD 16 au=t16,a2.tmps.getD 17 au=t17,a2.tmps.getD 18 au=t18 at ha_;subst ha_;have HC:=aj hcon;clear hcon
  go_wp2_with (first|(go_at_call 175;refine HC.out.mono ?_;clear HC;rintro e w3 ⟨rfl,hb3⟩))
  go_ret
  exact⟨sM,tE.trans (hb3.mono tE.size)⟩
end Go.Proofs.YtffladgmkiimjaaGreatDoor
namespace Go.Lag
open Go.RowKit
structure Step(X X':Nat->Prop)(W W':ak):Prop where
 os:W'.os=W.os
 tape:W'.tape=W.tape
 output:W'.output=W.output
 size:W.heap.size<=W'.heap.size
 old:∀k,k<W.heap.size->X' k->X k
 same:∀k,k<W.heap.size->¬X k->W'.heap[k]?=W.heap[k]?
def Step.refl(X:Nat->Prop)(W:ak):Step X X W W:=⟨rfl,rfl,rfl,aJ _,fun _ _ h=>h,fun _ _ _=>rfl⟩
def Step.trans{X Y Z:Nat->Prop}{A B C:ak}(h:Step X Y A B)(k:Step Y Z B C):Step X Z A C:=
 ⟨k.os.trans h.os,k.tape.trans h.tape,k.output.trans h.output,aG h.size k.size,
  fun i hi hz=>h.old i hi (k.old i (bA hi h.size) hz),
  fun i hi hx=>(k.same i (bA hi h.size) (fun hy=>hx (h.old i hi hy))).trans (h.same i hi hx)⟩
def Step.of_below{X:Nat->Prop}{W W':ak}(h:Bw W W'):Step X X W W':=
 ⟨h.os,h.tape,h.output,h.size,fun _ _ h=>h,fun k hk _=>h.block k hk⟩
def Step.below{X X':Nat->Prop}{W W':ak}(h:Step X X' W W'){n:Nat}(hn:n<=W.heap.size)(hx:∀k,k<n->¬X k):gu n W W':=
 ⟨h.os,h.tape,h.output,h.size,fun k hk=>h.same k (bA hk hn) (hx k hk)⟩
def Abides{β:Type}(J:β->(Nat->Prop)->ak->Prop):Prop:=
 ∀s X W W',J s X W->(∀k,X k->W'.heap[k]?=W.heap[k]?)->J s X W'
def D5{β:Type}(J:β->(Nat->Prop)->ak->Prop):Prop:=∀s X W,J s X W->∀k,X k->k<W.heap.size
def adg{α:Type}(P:aK)(g:Nat)(la:Array ai)(encs:α->Array ai)(all:List α)(w:ak):Prop:=
 ∀(l:Nat) (J Jx:List α->(Nat->Prop)->ak->Prop) (X:Nat->Prop) (W:ak),
  Bw w W->(∀k,X k->w.heap.size<=k/\k<W.heap.size)->Abides J->Abides Jx->D5 J->D5 Jx->
  (∀m pre x X1 W1,J pre X1 W1->(∀k,X1 k->w.heap.size<=k)->pre++[x] <+: all->YieldAt Fence.wide m P l (encs x) W1 fun e W'=>∃X2,Step X1 X2 W1 W'/\
   ((e=aU (aH true)/\J (pre++[x]) X2 W')\/(e=aU (aH false)/\Jx (pre++[x]) X2 W')))->
  J [] X W->
  bm P g (la++#[.func (.yield l) #[] #[]]) W fun e W'=>(∃v,e=aU v)/\∃X2,Step X X2 W W'/\(J all X2 W'\/∃pre,Jx pre X2 W')
def aeq{α:Type}(I:List α->(Nat->Prop)->ak->Prop)(Ix:Code->List α->(Nat->Prop)->ak->Prop)(X:Nat->Prop)(xs:List α)(W:ak):Exit->jY->ak->Prop
 |.normal,_,W'=>∃X2,Step X X2 W W'/\I xs X2 W'
 |.ret,_,W'=>∃X2,Step X X2 W W'/\Ix .ret xs X2 W'
 |.exit id,_,W'=>∃X2,Step X X2 W W'/\Ix (.exit id) xs X2 W'
 |.goto t,_,W'=>∃X2,Step X X2 W W'/\Ix (.goto t) xs X2 W'
 |.panic _,_,_=>False
 |.outgrown,_,_=>False
def tT{α:Type}{P:aK}{n:Nat}{g:bI}{ps:Array j5}{assign body:Code}{Q:Exit->jY->ak->Prop}{a:jY}{w:ak}
  {gf:Nat} {la:Array ai} (hg:a.eval g=.func (.func gf) la #[]) (eg:∀args w,(callFunc gf args).run P w=.ok (.enter gf args) w)
  {encs:α->Array ai} {all:List α} {w0:ak} (hseq:adg P gf la encs all w0) (hb0:Bw w0 w) (Y8:∀x,(encs x).size=ps.size)
  (I:List α->(Nat->Prop)->ak->Prop) (Ix:Code->List α->(Nat->Prop)->ak->Prop) (hI:Abides I) (hIx:∀c,Abides (Ix c)) (hIb:D5 I) (ajO:∀c,D5 (Ix c))
  (X:Nat->Prop) (hX:∀k,X k->w0.heap.size<=k/\k<w.heap.size) (h0:I [] X w)
  (A:List α->α->jY->(Nat->Prop)->ak->Prop) (hA:∀pre x,Abides (A pre x))
  (Zo:∀(l m:Nat) (pre:List α) (x:α) (X1:Nat->Prop) (W:ak) (K:jY->ak->Prop),I pre X1 W->(∀k,X1 k->w0.heap.size<=k)->pre++[x] <+: all->(∀a' X2 W',Step X1 X2 W W'->A pre x a' X2 W'->K a' W')->
   assign.wpIn (Fence.wide.inRound l) m P (Exit.then K (fun _ _ _=>False)) { tmps:=(ps.zip (encs x)).foldl (fun t (p,v)=>t.setIfInBounds p v) a.tmps,defers:=[] } W)
  (afT:∀(l m:Nat) (pre:List α) (x:α) (a':jY) (X1:Nat->Prop) (W:ak),A pre x a' X1 W->(∀k,X1 k->w0.heap.size<=k)->pre++[x] <+: all->body.wpIn (Fence.wide.inRound l) m P (aeq I Ix X1 (pre++[x]) W) a' W)
  (hdone:∀(D:Nat) (X2:Nat->Prop) (W:ak),w.heap.size<=D->¬X2 D->Step X X2 w W->I all X2 W->W.heap[D]?=some (.deferred (some []))->Q .normal { a with defers:={ target:=.collected D,args:=#[] }::a.defers } W)
  (Du:∀(D:Nat) (c:Code) (pre:List α) (X2:Nat->Prop) (W:ak),w.heap.size<=D->¬X2 D->Step X X2 w W->Ix c pre X2 W->W.heap[D]?=some (.deferred (some []))->c.wpIn Fence.wide n P Q { a with defers:={ target:=.collected D,args:=#[] }::a.defers } W) :
  (Code.rangeFunc g ps assign body).wpIn Fence.wide n P Q a w:=by
 refine wpIn_rangeFunc ?_;intro fn hfn;rw[show Fence.wide.round=none from rfl];obtain⟨rec,KH⟩:∃rec:LoopState->Option Code->Loop,rec=fun st pe=>{ state:=st,pending:=pe,fn,tmps:=a.tmps,params:=ps,assign,body,defers:=w.heap.size }:=⟨_,rfl⟩
 obtain⟨W1,hW1⟩:∃W1,(w.alloc (.deferred (some []))).alloc (.loop (rec .ready none))=W1:=⟨_,rfl⟩
 have hL1:W1.heap[w.heap.size+1]?=some (.loop (rec .ready none)):=by
  rw[<-hW1];have:=aw (w.alloc (.deferred (some []))) (.loop (rec .ready none));rwa [eD] at this
 have hK1:W1.heap[w.heap.size]?=some (.deferred (some [])):=by
  rw[<-hW1];exact(aY _ _ _ (by simp)).trans (aw w _)
 have vV:Bw w W1:=by rw[<-hW1];exact((ay _ w).alloc (aJ _) _).alloc (by simp) _
 have hs1:W1.heap.size=w.heap.size+2:=by rw[<-hW1];simp
 have hI1:I [] X W1:=hI _ _ _ _ h0 (fun k hk=>vV.block k (hX k hk).2);have hb1:Bw w0 W1:=hb0.trans (vV.mono hb0.size)
 refine⟨w.heap.size+1,[{ target:=.collected w.heap.size,args:=#[] }],W1,{ target:=.fn (.func gf) #[],args:=la++#[.func (.yield (w.heap.size+1)) #[] #[]] },W1,gf,
  la++#[.func (.yield (w.heap.size+1)) #[] #[]],W1,?_,?_,?_,?_,(fun h=>by cases h),?_⟩
 .rw[<-hW1,KH];exact run_enterLoop_outer _ _ _ _ _
 .simp only[resolve,hg];simp[go_sem]
 .intro f' hf';trivial
 .simp[invoke,go_sem,eg]
 rw[callsIn_wide]
 refine(hseq (w.heap.size+1)
  (fun pre Y W=>∃Z:Nat->Prop,Y=(fun k=>Z k\/k=w.heap.size\/k=w.heap.size+1)/\(∀k,Z k->k≠w.heap.size/\k≠w.heap.size+1)/\I pre Z W/\W.heap[w.heap.size+1]?=some (.loop (rec .ready none))/\W.heap[w.heap.size]?=some (.deferred (some [])))
  (fun pre Y W=>∃(Z:Nat->Prop) (c:Code),Y=(fun k=>Z k\/k=w.heap.size\/k=w.heap.size+1)/\(∀k,Z k->k≠w.heap.size/\k≠w.heap.size+1)/\Ix c pre Z W/\W.heap[w.heap.size+1]?=some (.loop (rec .done (some c)))/\W.heap[w.heap.size]?=some (.deferred (some [])))
  (fun k=>X k\/k=w.heap.size\/k=w.heap.size+1) W1 hb1 ?_ ?_ ?_ ?_ ?_ ?_ ?_).mono ?_
 .rintro k (hk|rfl|rfl)
  .have:=hX k hk;exact⟨this.1,by omega⟩
  .have:=hb0.size;exact⟨this,by omega⟩
  have:=hb0.size;exact⟨by omega,by omega⟩
 .rintro pre Y W W' ⟨Z,rfl,hz,hi,hl,hk⟩ hs;exact⟨Z,rfl,hz,hI _ _ _ _ hi (fun k h=>hs k (bV h)),(hs _ (.inr (.inr rfl))).trans hl,(hs _ (.inr (bV rfl))).trans hk⟩
 .rintro pre Y W W' ⟨Z,c,rfl,hz,hi,hl,hk⟩ hs;exact⟨Z,c,rfl,hz,hIx _ _ _ _ _ hi (fun k h=>hs k (bV h)),(hs _ (.inr (.inr rfl))).trans hl,(hs _ (.inr (bV rfl))).trans hk⟩
 .rintro pre Y W ⟨Z,rfl,hz,hi,hl,hk⟩ k (rU|rfl|rfl)
  .exact hIb _ _ _ hi k rU
  .exact(ag.1 hk).1
  exact(ag.1 hl).1
 .rintro pre Y W ⟨Z,c,rfl,hz,hi,hl,hk⟩ k (rU|rfl|rfl)
  .exact ajO _ _ _ _ hi k rU
  .exact(ag.1 hk).1
  exact(ag.1 hl).1
 .rintro m pre x Y W ⟨Z,rfl,hz,hi,hl,hk⟩ hge hpre;have ab9:∀k,Z k->w0.heap.size<=k:=fun k h=>hge k (bV h);have hlt:w.heap.size+1<W.heap.size:=(ag.1 hl).1;have hy:=run_yield (P:=P) (args:=encs x) hl (by rw[KH];exact Y8 x);rw[KH] at hy;refine⟨fn,_,assign,body,hy,roundIn_of_wpIn hfn (Zo _ m pre x Z W _ hi ab9 hpre ?_)⟩;intro a' Z2 W2 hst ha;have hz1:∀k,Z k->k≠w.heap.size/\k≠w.heap.size+1:=hz;have hl1:W2.heap[w.heap.size+1]?=some (.loop (rec .ready none)):=(hst.same _ hlt (fun h=>(hz _ h).2 rfl)).trans hl;have rC:W2.heap[w.heap.size]?=some (.deferred (some [])):=(hst.same _ (by omega) (fun h=>(hz _ h).1 rfl)).trans hk;have hlt2:w.heap.size+1<W2.heap.size:=(ag.1 hl1).1;have hz2:∀k,Z2 k->k≠w.heap.size/\k≠w.heap.size+1:=fun k h=>⟨fun e=>(hz k (hst.old k (by omega) h)).1 e,fun e=>(hz k (hst.old k (by omega) h)).2 e⟩
  refine⟨_,run_beginRound hl1 (by rw[KH]),?_⟩;obtain⟨W3,hW3⟩:∃W3,W2.putObj (w.heap.size+1) (.loop { rec .ready none with state:=.busy })=W3:=⟨_,rfl⟩
  have hl3:W3.heap[w.heap.size+1]?=some (.loop { rec .ready none with state:=.busy }):=by rw[<-hW3];exact World.putObj_heap_same hlt2
  have hk3:W3.heap[w.heap.size]?=some (.deferred (some [])):=by rw[<-hW3];exact(dS (by omega)).trans rC
  have hp3:∀k,k≠w.heap.size+1->W3.heap[k]?=W2.heap[k]?:=fun k h=>by rw[<-hW3];exact dS (by omega)
  have h3s:W3.heap.size=W2.heap.size:=by rw[<-hW3];simp
  have h3o:W3.os=W2.os/\W3.tape=W2.tape/\W3.output=W2.output:=by rw[<-hW3];exact⟨rfl,rfl,rfl⟩
  have ajo:∀k,Z2 k->w0.heap.size<=k:=fun k h=>by
   by_cases hc:k<W.heap.size
   .exact ab9 k (hst.old k hc h)
   have:=hb0.size;omega
  have ha3:=hA _ _ _ _ _ W3 ha (fun k h=>hp3 k (hz2 k h).2);simp only[hW3];refine wpIn_mono (afT _ m pre x a' Z2 W3 ha3 ajo hpre) ?_
  have fin:∀(jump:Option Code) (Z4:Nat->Prop) (W4:ak),Step Z2 Z4 W3 W4->
    (Instr.endRound (w.heap.size+1) jump).run P W4=.ok (aH jump.isNone) (W4.putObj (w.heap.size+1) (.loop (rec (if jump.isNone then .ready else .done) jump)))/\
    (∀k,Z4 k->k≠w.heap.size/\k≠w.heap.size+1)/\
    (∀k,Z4 k->(W4.putObj (w.heap.size+1) (.loop (rec (if jump.isNone then .ready else .done) jump))).heap[k]?=W4.heap[k]?)/\
    (W4.putObj (w.heap.size+1) (.loop (rec (if jump.isNone then .ready else .done) jump))).heap[w.heap.size+1]?=some (.loop (rec (if jump.isNone then .ready else .done) jump))/\
    (W4.putObj (w.heap.size+1) (.loop (rec (if jump.isNone then .ready else .done) jump))).heap[w.heap.size]?=some (.deferred (some []))/\
    Step (fun k=>Z k\/k=w.heap.size\/k=w.heap.size+1) (fun k=>Z4 k\/k=w.heap.size\/k=w.heap.size+1) W (W4.putObj (w.heap.size+1) (.loop (rec (if jump.isNone then .ready else .done) jump))):=fun jump Z4 W4 h4=>by
   have hl4:W4.heap[w.heap.size+1]?=some (.loop { rec .ready none with state:=.busy }):=(h4.same _ (by omega) (fun h=>(hz2 _ h).2 rfl)).trans hl3;have hk4:W4.heap[w.heap.size]?=some (.deferred (some [])):=(h4.same _ (by omega) (fun h=>(hz2 _ h).1 rfl)).trans hk3;have XS:∀k,Z4 k->k≠w.heap.size/\k≠w.heap.size+1:=fun k h=>⟨fun e=>(hz2 k (h4.old k (by omega) h)).1 e,fun e=>(hz2 k (h4.old k (by omega) h)).2 e⟩
   have:=run_endRound (P:=P) jump hl4;have h4s:=h4.size;have oK:=hst.size
   refine⟨by rw[KH] at this ⊢;exact this,XS,fun k h=>dS (fun e=>(XS k h).2 (by omega)),World.putObj_heap_same (ag.1 hl4).1,(dS (by omega)).trans hk4,
    ⟨h4.os.trans (h3o.1.trans hst.os),h4.tape.trans (h3o.2.1.trans hst.tape),h4.output.trans (h3o.2.2.trans hst.output),by simp;omega,?_,?_⟩⟩
   .rintro k hk (h|h)
    .exact bV (hst.old k hk (h4.old k (by omega) h))
    exact .inr h
   intro k hk hn;have vG:¬Z k:=fun h=>hn (bV h);have zO:k≠w.heap.size+1:=fun h=>hn (.inr (.inr h));have hn3:¬Z2 k:=fun h=>vG (hst.old k hk h);exact(dS (by omega)).trans ((h4.same k (by omega) hn3).trans ((hp3 k zO).trans (hst.same k hk vG)))
  rintro e a4 W4 hp;cases e with
  |normal=>
   obtain⟨Z4,h4,hi4⟩:=hp;obtain⟨hr,XS,FT,hl5,hk5,hstep⟩:=fin none Z4 W4 h4;exact⟨_,_,hr,_,hstep,bV ⟨rfl,Z4,rfl,XS,hI _ _ _ _ hi4 FT,hl5,hk5⟩⟩
  |ret=>
   obtain⟨Z4,h4,hi4⟩:=hp;obtain⟨hr,XS,FT,hl5,hk5,hstep⟩:=fin (some .ret) Z4 W4 h4;exact⟨_,_,hr,_,hstep,.inr ⟨rfl,Z4,.ret,rfl,XS,hIx _ _ _ _ _ hi4 FT,hl5,hk5⟩⟩
  |exit id=>
   obtain⟨Z4,h4,hi4⟩:=hp;obtain⟨hr,XS,FT,hl5,hk5,hstep⟩:=fin (some (.exit id)) Z4 W4 h4;exact⟨_,_,hr,_,hstep,.inr ⟨rfl,Z4,.exit id,rfl,XS,hIx _ _ _ _ _ hi4 FT,hl5,hk5⟩⟩
  |goto t=>
   obtain⟨Z4,h4,hi4⟩:=hp;obtain⟨hr,XS,FT,hl5,hk5,hstep⟩:=fin (some (.goto t)) Z4 W4 h4;exact⟨_,_,hr,_,hstep,.inr ⟨rfl,Z4,.goto t,rfl,XS,hIx _ _ _ _ _ hi4 FT,hl5,hk5⟩⟩
  |panic ch=>exact hp.elim
  |outgrown=>exact hp.elim
 .exact⟨X,rfl,fun k h=>by have:=(hX k h).2;omega,hI1,hL1,hK1⟩
 have key:∀(Z:Nat->Prop) (W2:ak) (o:Obj),Step (fun k=>X k\/k=w.heap.size\/k=w.heap.size+1) (fun k=>Z k\/k=w.heap.size\/k=w.heap.size+1) W1 W2->Step X Z w (W2.putObj (w.heap.size+1) o):=fun Z W2 o h=>
  ⟨h.os.trans vV.os,h.tape.trans vV.tape,h.output.trans vV.output,by have:=h.size;simp;omega,fun k hk hz=>by
   rcases h.old k (by omega) (bV hz) with h|h|h
   .exact h
   .omega
   .omega,fun k hk hn=>(dS (by omega)).trans ((h.same k (by omega) (fun h=>by
   rcases h with h|h|h
   .exact hn h
   .omega
   omega)).trans (vV.block k hk))⟩
 rintro e W2 ⟨⟨v,rfl⟩,Y,hstep,(⟨Z,rfl,hz,hi,hl,hk⟩|⟨pre,Z,c,rfl,hz,hi,hl,hk⟩)⟩
 .exact⟨none,_,by have:=run_endLoop (P:=P) hl (by rw[KH];simp);rw[KH] at this;exact this,hdone _ Z _ (aJ _) (fun h=>(hz _ h).1 rfl) (key Z W2 _ hstep) (hI _ _ _ _ hi (fun k h=>dS (fun e=>(hz k h).2 (by omega)))) ((dS (by omega)).trans hk)⟩
 exact⟨some c,_,by have:=run_endLoop (P:=P) hl (by rw[KH];simp);rw[KH] at this;exact this,Du _ c pre Z _ (aJ _) (fun h=>(hz _ h).1 rfl) (key Z W2 _ hstep) (hIx _ _ _ _ _ hi (fun k h=>dS (fun e=>(hz k h).2 (by omega)))) ((dS (by omega)).trans hk)⟩
end Go.Lag
namespace Go.Proofs.YtffladgmkiimjaaGreatDoor
open Go.RowKit Go.Lag
attribute [local go_sem] Oper.semAt_some
def eV.put(a:eV)(mE:Nat)(n:Int):eV:=
 match mE with
 |0=>{ a with m0:=n }
 |1=>{ a with m1:=n }
 |_=>{ a with m2:=n }
def gU(lo hi:Int):List Int:=(aP (hi+1-lo).toNat).map fun(i:Nat)=>lo+i
def leaves(ok:eV->Bool):List Mn->Nat->eV->List eV
 |[],_,a=>if ok a then[a] else[]
 |m::r,mE,a=>(gU m.lo m.hi).flatMap fun n=>leaves ok r (mE+1) (a.put mE n)
def j_(b:BB)(ss:List Int)(ms:List Mk)(a:eV):Bool:=BS b (b.cI+a.used) (bE ss) ms
def bu(b:BB)(ml:List Mn)(ss:List Int)(ms:List Mk):List eV:=(gU b.ll b.lm).flatMap fun n=>leaves (j_ b ss ms) ml 0 ⟨n,0,0,0⟩
def eV.OY{a:eV}(h:a.Ok)(mE:Nat){n:Int}(h1:0<=n)(h2:n<=99):(a.put mE n).Ok:=by
 obtain⟨p,q,r,s⟩:=h
 match mE with
 |0=>exact⟨p,⟨h1,h2⟩,r,s⟩
 |1=>exact⟨p,q,⟨h1,h2⟩,s⟩
 |k+2=>exact⟨p,q,r,⟨h1,h2⟩⟩
def eV.Yw(a:eV)(mE:Nat)(n z:Int):(a.put mE z).put mE n=a.put mE n:=by
 match mE with
 |0=>rfl
 |1=>rfl
 |k+2=>rfl
def JQ{X X':Nat->Prop}{W W':ak}(h:Step X X' W W'){l i:Nat}(u:ai)(hl:W.heap.size<=l):Step X X' W (W'.setCell ⟨l,i,none⟩ u):=
 ⟨h.os,h.tape,h.output,by simpa using h.size,h.old,fun k hk hx=>(aW _ _ _ _ (by show k≠l;omega)).trans (h.same k hk hx)⟩
structure IB(b:BB)(bn aL az:ai)(w0:ak)(bk yk nk l:Nat)(X:Nat->Prop)(W:ak):Prop where
 below:Bw w0 W
 lj:W.heap[bk]?=some (ar (b.cells bn aL az) 119 (0,0))
 hyk:W.heap[yk]?=some (ar #[.func (.yield l) #[] #[]] 159 (0,0))
 hnk:W.heap[nk]?=some (ar #[.func (.func 169) #[] #[pv bk 0,pv yk 0,pv nk 0]] 181 (0,0))
 xb:¬X bk
 xy:¬X yk
 xn:¬X nk
 ge:∀k,X k->w0.heap.size<=k
def IB.step{b:BB}{bn aL az:ai}{w0:ak}{bk yk nk l:Nat}{X X2:Nat->Prop}{W W':ak}(h:IB b bn aL az w0 bk yk nk l X W)(hs:Step X X2 W W'):IB b bn aL az w0 bk yk nk l X2 W':=by
 have l1:=(ag.1 h.lj).1;have l2:=(ag.1 h.hyk).1;have l3:=(ag.1 h.hnk).1;refine⟨h.below.trans (hs.below h.below.size fun k hk hx=>?_),(hs.same _ l1 h.xb).trans h.lj,(hs.same _ l2 h.xy).trans h.hyk,(hs.same _ l3 h.xn).trans h.hnk,fun hx=>h.xb (hs.old _ l1 hx),fun hx=>h.xy (hs.old _ l2 hx),fun hx=>h.xn (hs.old _ l3 hx),fun k hx=>?_⟩
 .have:=h.ge k hx;omega
 by_cases hk:k<W.heap.size
 .exact h.ge k (hs.old k hk hx)
 have:=h.below.size;omega
def aR{w:ak}{v:ai}{n:Nat}{xs:List ai}(h:Reads w v n xs):∃p cap,v=ae p n cap/\n<=4294967296:=by
 rcases h with⟨rfl,rfl,_⟩|⟨g,off,cap,rfl,h,_⟩
 .exact⟨_,_,rfl,oM⟩
 exact⟨_,_,rfl,h.1⟩
def Xt{α:Type}(P:aK)(l:Nat)(encs:α->Array ai)(n0:Nat)(all:List α)(J Jx:List α->(Nat->Prop)->ak->Prop):Prop:=
 ∀m pre x X1 W1,J pre X1 W1->(∀k,X1 k->n0<=k)->pre++[x] <+: all->YieldAt Fence.wide m P l (encs x) W1 fun e W'=>∃X2,Step X1 X2 W1 W'/\
   ((e=aU (aH true)/\J (pre++[x]) X2 W')\/(e=aU (aH false)/\Jx (pre++[x]) X2 W'))
abbrev TH(a:eV):Array Value:=#[aO a.cells]
def RL(J Jx:List eV->(Nat->Prop)->ak->Prop)(X:Nat->Prop)(W:ak)(pre ys:List eV)(e:Ending)(W':ak):Prop:=
 ∃X2,Step X X2 W W'/\((e=aU (aH true)/\J (pre++ys) X2 W')\/(e=aU (aH false)/\∃q,Jx q X2 W'))
def SU(b:BB)(bn aL az:ai)(ml:List Mn)(ss:List Int)(ms:List Mk)(w0:ak)(hB:dh b bn aL az ml ss ms w0)(bk yk nk l:Nat)(all:List eV)(J Jx:List eV->(Nat->Prop)->ak->Prop)(hJ:Lag.Abides J)(X5:Lag.D5 J)
  (hY:Xt aq l TH w0.heap.size all J Jx) (a:eV) (ha:a.Ok) (pre:List eV) (X:Nat->Prop) (W:ak) (hE:IB b bn aL az w0 bk yk nk l X W) (hj:J pre X W) (hp:pre++leaves (j_ b ss ms) [] ml.length a <+: all) :
  bm aq 169 #[aO a.cells,ah af ml.length,pv bk 0,pv yk 0,pv nk 0] W (RL J Jx X W pre (leaves (j_ b ss ms) [] ml.length a)):=by
 have hx:=X5 _ _ _ hj;have b1:Bw W (W.alloc (ar a.cells 134)):=dF;have X6:=hE.step (Step.of_below b1);have hB1:=hB.below X6.below;obtain⟨x0,x1,x2,x3,x4,x5,x6,x7,x8,x9,qY,qX,r8,rT,rW⟩:=bZ X6.lj;have y0:=aF X6.hyk 0 _ rfl;obtain⟨p,cap,rfl,hlen⟩:=aR hB.rm;have hk:(W.alloc (ar a.cells 134)).heap[W.heap.size]?=some (ar a.cells 134 (0,0)):=aw W _;have z0:=aF hk 0 _ rfl;have z1:=aF hk 1 _ rfl;have z2:=aF hk 2 _ rfl;have z3:=aF hk 3 _ rfl;have hmk:=Pj b hB.ok (ae p ml.length cap) aL az ss hB.ng ms hB.lK a ha _ hB1.rs hB1.rk;have HM:=aj hmk;have HE:=aj X6;have HB:=aj hB1;have HY:=aj hY;have HJ:=aj hJ;clear hmk hE hB X6 hB1 hk hY hJ;generalize hL:ml.length=L at *;clear hL;have hlv:leaves (j_ b ss ms) [] L a=if j_ b ss ms a then[a] else[]:=rfl
 rw[hlv] at hp ⊢;clear hlv
 have HJ2:Hid (∀W',gu (W.alloc (ar a.cells 134)).heap.size (W.alloc (ar a.cells 134)) W'->J pre X W'/\Step X X W W'):=aj fun W' hb'=>by
  have qG:Bw W W':=b1.trans (hb'.mono b1.size);exact⟨HJ.out _ _ _ _ hj fun k hk=>qG.block k (hx k hk),Step.of_below qG⟩
 clear hj hx HJ
 by_cases dp:j_ b ss ms a=true
 .have HK:=aj (aw W (ar a.cells 134));have hmb:BS b (b.cI+a.used) (bE ss) ms=true:=dp;rw[hmb] at HM;rw[if_pos dp] at hp ⊢;have HP:=aj hp;clear hp hmb dp b1;refine callsIn_wide (n:=0).1 (callsIn_of_wp Tryz.func169 rfl trivial ?_ rfl);simp only[Tryz.ntmps169,jS,eT,o7,Et,Er,kE,kD,jT,iO,jE,fq]
  gi_wp2_with (first
   |(refine⟨trivial,rfl,?_⟩;gi_at_call 143;rw[callsIn_wide];refine HM.out.mono ?_;clear HM;rintro e W1 ⟨rfl,hb1⟩
     have Uh:=HE.out.step (Step.of_below hb1);have u0:=aF Uh.hyk 0 _ rfl;have rC:=(hb1.block W.heap.size sM).trans HK.out;have v0:=aF rC 0 _ rfl;have v1:=aF rC 1 _ rfl;have v2:=aF rC 2 _ rfl;have v3:=aF rC 3 _ rfl;have hjs:=HJ2.out W1 hb1;have HS:=aj hjs.2;obtain⟨fn,tmps,assign,body,hy,hR⟩:=HY.out 0 pre a X W1 hjs.1 Uh.ge HP.out
     clear Uh rC hjs hb1)
   |(refine⟨rfl,?_⟩;refine hR.mono ?_;clear hR;rintro e W2 ⟨X2,hs2,(⟨rfl,hj2⟩|⟨rfl,hj2⟩)⟩))
  .go_ret
   exact⟨X2,HS.out.trans hs2,bV ⟨rfl,hj2⟩⟩
  go_ret
  exact⟨X2,HS.out.trans hs2,.inr ⟨rfl,_,hj2⟩⟩
 have HK:=aj (aw W (ar a.cells 134));have hmb:BS b (b.cI+a.used) (bE ss) ms=false:=by simpa [j_] using dp
 rw[hmb] at HM;rw[if_neg dp] at hp ⊢;clear hp hmb dp b1 HY;refine callsIn_wide (n:=0).1 (callsIn_of_wp Tryz.func169 rfl trivial ?_ rfl);simp only[Tryz.ntmps169,jS,eT,o7,Et,Er,kE,kD,jT,iO,jE,fq]
 gi_wp2_with (first
  |(refine⟨trivial,rfl,?_⟩;gi_at_call 143;rw[callsIn_wide];refine HM.out.mono ?_;clear HM;rintro e W1 ⟨rfl,hb1⟩
    have Uh:=HE.out.step (Step.of_below hb1);have u0:=aF Uh.hyk 0 _ rfl;have rC:=(hb1.block W.heap.size sM).trans HK.out;have v0:=aF rC 0 _ rfl;have v1:=aF rC 1 _ rfl;have v2:=aF rC 2 _ rfl;have v3:=aF rC 3 _ rfl;have hjs:=HJ2.out W1 hb1;have HS:=aj hjs
    clear Uh rC hjs hb1))
 refine⟨fun _ _=>trivial,?_⟩
 gi_wp2
 go_ret
 exact⟨X,HS.out.2,bV ⟨rfl,by rw[List.append_nil];exact HS.out.1⟩⟩
def RB{w:ak}{B:Nat}{a:eV}(mE:Nat)(hm:mE<3)(n:Int)(h:w.heap[B]?=some (ar a.cells 134 (0,0))):(w.setCell ⟨B,1+mE,none⟩ (ah af n)).heap[B]?=some (ar (a.put mE n).cells 134 (0,0)):=by
 obtain⟨hk,h⟩:=ag.1 h
 match mE,hm with
 |0,_=>simp[kJ,hk,h,CW,eV.put]
 |1,_=>simp[kJ,hk,h,CW,eV.put]
 |2,_=>simp[kJ,hk,h,CW,eV.put]
def Fq{lo hi:Int}{k:Nat}(h:lo+k<=hi):k<(gU lo hi).length/\∀h',(gU lo hi)[k]'h'=lo+k:=by
 constructor
 .simp[gU];omega
 intro h';simp[gU]
def Jp{α β:Type}(l:List α)(f:α->List β){k:Nat}(h:k<l.length):(l.take (k+1)).flatMap f=(l.take k).flatMap f++f l[k]:=by
 rw[List.take_succ_eq_append_getElem h,List.flatMap_append];simp
def SS(b:BB)(bn aL az:ai)(ml:List Mn)(ss:List Int)(ms:List Mk)(w0:ak)(hB:dh b bn aL az ml ss ms w0)(bk yk nk l:Nat)(all:List eV)(J Jx:List eV->(Nat->Prop)->ak->Prop)(hJ:Lag.Abides J)(X5:Lag.D5 J)
  (fr:List Mn) (m:Mn) (r:List Mn) (VT:ml=fr++m::r)
  (ih:∀(a:eV),a.Ok->∀(pre:List eV) (X:Nat->Prop) (W:ak),IB b bn aL az w0 bk yk nk l X W->J pre X W->pre++leaves (j_ b ss ms) r (fr.length+1) a <+: all->
   bm aq 169 #[aO a.cells,ah af ((fr.length+1:Nat):Int),pv bk 0,pv yk 0,pv nk 0] W (RL J Jx X W pre (leaves (j_ b ss ms) r (fr.length+1) a)))
  (a:eV) (ha:a.Ok) (pre:List eV) (X:Nat->Prop) (W:ak) (hE:IB b bn aL az w0 bk yk nk l X W) (hj:J pre X W) (hp:pre++leaves (j_ b ss ms) (m::r) fr.length a <+: all) :
  bm aq 169 #[aO a.cells,ah af fr.length,pv bk 0,pv yk 0,pv nk 0] W (RL J Jx X W pre (leaves (j_ b ss ms) (m::r) fr.length a)):=by
 have hx:=X5 _ _ _ hj;have hlen:fr.length<ml.length:=by rw[VT];simp
 have M3:fr.length<3:=by have:=hB.iF.len;omega
 have hmk:ml[fr.length]=m:=by simp[VT]
 have Zb:=hB.iF.mem m (by rw[VT];simp)
 obtain⟨g,off,cap,rfl,amq,hg,hcm⟩:∃g off cap,bn=ae (some ⟨g,off,none⟩) ml.length cap/\(ml.length<=4294967296/\ml.length<=cap)/\g<w0.heap.size/\∀j u,(dX ml)[j]?=some u->w0.cell? ⟨g,off+j,none⟩=some u:=by
  rcases hB.rm with⟨_,h,_⟩|h
  .omega
  exact h
 have hcell:=EB hcm fr.length hlen;rw[hmk] at hcell
 have HC:Hid (∀W',Bw w0 W'->W'.cell? ⟨g,off+fr.length*3+1,none⟩=some (ah af m.lo)/\W'.cell? ⟨g,off+fr.length*3+2,none⟩=some (ah af m.hi)):=
  aj fun W' hb=>⟨(hb.cell (p:=⟨g,_,none⟩) hg).trans hcell.2.1,(hb.cell (p:=⟨g,_,none⟩) hg).trans hcell.2.2⟩
 clear hcell hcm;have hl3:=hB.iF.len;have HB:=aj hB;have HI:=aj ih;have HP:=aj hp;have HX:=aj hx;have HJ:=aj hJ;have hlv:leaves (j_ b ss ms) (m::r) fr.length a=(gU m.lo m.hi).flatMap fun n=>leaves (j_ b ss ms) r (fr.length+1) (a.put fr.length n):=rfl;have b1:Bw W (W.alloc (ar a.cells 134)):=dF;have X6:=hE.step (Step.of_below b1);have hj1:J pre X (W.alloc (ar a.cells 134)):=hJ _ _ _ _ hj fun k hk=>b1.block k (hx k hk);obtain⟨x0,x1,x2,x3,x4,x5,x6,x7,x8,x9,qY,qX,r8,rT,rW⟩:=bZ X6.lj;obtain⟨c1,c2⟩:=HC.out _ X6.below;have hXa:¬X W.heap.size:=fun h=>absurd (hx _ h) oM;have HE1:=aj X6;have HE:=aj hE;have HJ1:=aj hj1;have HXa:=aj hXa;clear hB ih hp hx hJ hE X6 hj1 hXa hj;clear hmk VT;generalize ml.length=L at *;generalize fr.length=mE at *;generalize j_ b ss ms=ok at *;refine callsIn_wide (n:=0).1 (callsIn_of_wp Tryz.func169 rfl trivial ?_ rfl);simp only[Tryz.ntmps169,jS,eT,o7,Et,Er,kE,kD,jT,iO,jE,fq];have i1:(mE:Int)<(L:Int):=oM;have i2:(0:Int)<=(mE:Int):=oM;have i3:((mE:Int)==(L:Int))=false:=sO
 gi_wp2
 have w1:IntKind.i64.wrap (mE+1)=((mE+1:Nat):Int):=by rw[fO _ oM oM];omega
 gi_loopw [8] (fun v wr=>∃(k:Nat) (X1:Nat->Prop),v=ah af (m.lo+k)/\m.lo+k<=m.hi+1/\Step X X1 W wr/\¬X1 W.heap.size/\J (pre++((gU m.lo m.hi).take k).flatMap fun n=>leaves ok r (mE+1) (a.put mE n)) X1 wr/\
   ∃a':eV,(∀n,a'.put mE n=a.put mE n)/\wr.heap[W.heap.size]?=some (ar a'.cells 134 (0,0))) (fun v _=>(m.hi+1-intOf v).toNat)
 case atStart=>exact⟨0,X,sM,oM,Step.of_below b1,HXa.out,by simpa using HJ1.out,a,fun _=>rfl,aw W _⟩
 case round=>
  obtain⟨k,X1,rfl,hk,hst,yy,hjk,a',ha',hab⟩:=hrel;have Wd:=HE.out.step hst;have QG:Step X X1 W (wr.setCell ⟨W.heap.size,1+mE,none⟩ (ah af (m.lo+k))):=JQ hst _ (aJ _);have Uh:=HE.out.step QG;have Ng:=RB mE M3 (m.lo+k) hab;have hcc:a'.put mE (m.lo+k)=a.put mE (m.lo+k):=ha' _;rw[hcc] at Ng
  have hj2:J (pre++((gU m.lo m.hi).take k).flatMap fun n=>leaves ok r (mE+1) (a.put mE n)) X1 (wr.setCell ⟨W.heap.size,1+mE,none⟩ (ah af (m.lo+k))):=
   HJ.out _ _ _ _ hjk fun i hi=>aW _ _ _ _ (by rintro rfl;exact yy hi)
  have hx1:=X5 _ _ _ hjk;clear x0 x1 x2 x3 x4 x5 x6 x7 x8 x9 qY qX r8 rT rW c1 c2;obtain⟨x0,x1,x2,x3,x4,x5,x6,x7,x8,x9,qY,qX,r8,rT,rW⟩:=bZ Wd.lj;obtain⟨c1,c2⟩:=HC.out _ Wd.below;have v0:=aF hab 0 _ rfl;have v1:=aF hab 1 _ rfl;have v2:=aF hab 2 _ rfl;have v3:=aF hab 3 _ rfl
  have vm:∃u,wr.cell? ⟨W.heap.size,1+mE,none⟩=some u:=by
   match mE,M3 with
   |0,_=>exact⟨_,v1⟩
   |1,_=>exact⟨_,v2⟩
   |2,_=>exact⟨_,v3⟩
  obtain⟨um,vm⟩:=vm;have vf:=dm hab (1+mE);have z0:=aF Ng 0 _ rfl;have z1:=aF Ng 1 _ rfl;have z2:=aF Ng 2 _ rfl;have z3:=aF Ng 3 _ rfl;have n0:=aF Uh.hnk 0 _ rfl;have hap:=eV.OY ha mE (n:=m.lo+k) oM;have w2:IntKind.i64.wrap (m.lo+(k:Int)+1)=m.lo+((k+1:Nat):Int):=by rw[fO _ oM oM];omega
  by_cases hlt:m.lo+(k:Int)<=m.hi
  .obtain⟨yB,hkg⟩:=Fq hlt;have Tg:=Jp (gU m.lo m.hi) (fun n=>leaves ok r (mE+1) (a.put mE n)) yB;rw[hkg yB] at Tg
   have hih:=HI.out (a.put mE (m.lo+k)) (hap oM) _ X1 _ Uh hj2 (by
    rw[List.append_assoc,<-Tg];have:=HP.out;rw[hlv] at this;refine List.IsPrefix.trans ?_ this;rw[List.prefix_append_right_inj];refine⟨((gU m.lo m.hi).drop (k+1)).flatMap fun n=>leaves ok r (mE+1) (a.put mE n),?_⟩
    rw[<-List.flatMap_append,List.take_append_drop])
   have HPP:Hid (∀n,(a.put mE (m.lo+k)).put mE n=a.put mE n):=aj fun n=>eV.Yw _ _ _ _;have HIH:=aj hih;have HS2:=aj QG;have HF:=aj Tg;have LA:=aj hlv;have HA:=aj Ng;have HX1:=aj hx1;have HN:=aj Uh;have HXX:=aj yy;clear hih QG Tg hkg hj2 Uh Wd hab Ng hst hjk yy ha' hcc hlv hx1 hap;generalize a.put mE (m.lo+k)=a2 at *
   gi_wp2_with (first
    |(refine⟨trivial,rfl,?_⟩;gi_at_call 169;rw[callsIn_wide];refine HIH.out.mono ?_;clear HIH;rintro e W3 ⟨X3,hs3,(⟨rfl,hj3⟩|⟨rfl,q,hj3⟩)⟩))
   .go_roundw
    case rel=>
     have afZ:W.heap.size<(wr.setCell ⟨W.heap.size,1+mE,none⟩ (ah af (m.lo+k))).heap.size:=(ag.1 HA.out).1;refine⟨k+1,X3,sM,oM,HS2.out.trans hs3,fun h=>HXX.out (hs3.old _ afZ h),?_,a2,HPP.out,(hs3.same _ afZ HXX.out).trans HA.out⟩;rw[HF.out,<-List.append_assoc];exact hj3
    case measure=>simp[intOf];omega
   go_ret
   exact⟨X3,HS2.out.trans hs3,.inr ⟨rfl,q,hj3⟩⟩
  have hmh:m.hi=m.lo+k-1:=oM;have hall:(gU m.lo m.hi).take k=gU m.lo m.hi:=cQ (by simp[gU];omega);rw[hall] at hjk;have HJK:=aj hjk;have HS:=aj hst;have LA:=aj hlv;clear QG hj2 Uh Wd hab Ng hst hjk yy ha' hcc hlv hx1 hap hall
  gi_wp2
  go_ret
  rw[LA.out];exact⟨X1,HS.out,bV ⟨rfl,HJK.out⟩⟩
def Vd(b:BB)(bn aL az:ai)(ml:List Mn)(ss:List Int)(ms:List Mk)(w0:ak)(hB:dh b bn aL az ml ss ms w0)(bk yk nk l:Nat)(all:List eV)(J Jx:List eV->(Nat->Prop)->ak->Prop)(hJ:Lag.Abides J)(X5:Lag.D5 J)
  (hY:Xt aq l TH w0.heap.size all J Jx):∀(r fr:List Mn),ml=fr++r->∀(a:eV),a.Ok->∀(pre:List eV) (X:Nat->Prop) (W:ak),IB b bn aL az w0 bk yk nk l X W->J pre X W->pre++leaves (j_ b ss ms) r fr.length a <+: all->
   bm aq 169 #[aO a.cells,ah af fr.length,pv bk 0,pv yk 0,pv nk 0] W (RL J Jx X W pre (leaves (j_ b ss ms) r fr.length a)):=by
 intro r
 induction r with
 |nil=>
  rintro fr rfl a ha pre X W hE hj hp;have e:fr++([]:List Mn)=fr:=List.append_nil _;have:=SU b bn aL az (fr++[]) ss ms w0 hB bk yk nk l all J Jx hJ X5 hY a ha pre X W hE hj (by rw[e];exact hp);rw[e] at this;exact this
 |cons m r ih=>
  intro fr VT a ha pre X W hE hj hp;refine SS b bn aL az ml ss ms w0 hB bk yk nk l all J Jx hJ X5 fr m r VT (fun a ha pre X W hE hj hp=>?_) a ha pre X W hE hj hp;have:=ih (fr++[m]) (by rw[VT];simp) a ha pre X W hE hj (by simpa using hp);simpa using this
def nB(W:ak)(A B C:Array ai)(tA tB tC:aV) :
  (((W.alloc (ar A tA)).alloc (ar B tB)).alloc (ar C tC)).heap[W.heap.size]?=some (ar A tA (0,0))/\
  (((W.alloc (ar A tA)).alloc (ar B tB)).alloc (ar C tC)).heap[W.heap.size+1]?=some (ar B tB (0,0))/\
  (((W.alloc (ar A tA)).alloc (ar B tB)).alloc (ar C tC)).heap[W.heap.size+2]?=some (ar C tC (0,0)):=by
 refine⟨?_,?_,?_⟩
 .exact(aY _ _ _ sO).trans ((aY _ _ _ sM).trans (aw W _))
 .refine(aY _ _ _ sM).trans ?_;have:=aw (W.alloc (ar A tA)) (ar B tB);rwa [eD] at this
 have:=aw ((W.alloc (ar A tA)).alloc (ar B tB)) (ar C tC);rwa [eD,eD] at this
def Ju(b:BB)(bn aL az:ai)(ml:List Mn)(ss:List Int)(ms:List Mk)(w0:ak)(hB:dh b bn aL az ml ss ms w0):adg aq 117 #[aO (b.cells bn aL az)] TH (bu b ml ss ms) w0:=by
 intro l J Jx X W hb hX hJ hJx X5 ajN hY h0;show bm aq 117 #[aO (b.cells bn aL az),.func (.yield l) #[] #[]] W _;have dp:=hB.ok;have Uf:=dp.leak;have Zm:=nB W (b.cells bn aL az) #[.func (.yield l) #[] #[]] #[.func (.func 169) #[] #[pv W.heap.size 0,pv (W.heap.size+1) 0,pv (W.heap.size+1+1) 0]] 119 159 181;have hb3:∀A B C,Bw W (((W.alloc A).alloc B).alloc C):=fun A B C=>(((ay _ W).alloc (aJ _) _).alloc sM _).alloc sO _
 have hE0:IB b bn aL az w0 W.heap.size (W.heap.size+1) (W.heap.size+1+1) l X (((W.alloc (ar (b.cells bn aL az) 119)).alloc (ar #[.func (.yield l) #[] #[]] 159)).alloc (ar #[.func (.func 169) #[] #[pv W.heap.size 0,pv (W.heap.size+1) 0,pv (W.heap.size+1+1) 0]] 181)):=
  ⟨hb.trans ((hb3 _ _ _).mono hb.size),Zm.1,Zm.2.1,Zm.2.2,fun h=>by have:=(hX _ h).2;omega,fun h=>by have:=(hX _ h).2;omega,fun h=>by have:=(hX _ h).2;omega,fun k h=>(hX k h).1⟩
 have EE:=Step.of_below (X:=X) (hb3 (ar (b.cells bn aL az) 119) (ar #[.func (.yield l) #[] #[]] 159) (ar #[.func (.func 169) #[] #[pv W.heap.size 0,pv (W.heap.size+1) 0,pv (W.heap.size+1+1) 0]] 181));have hJ0:=hJ _ _ _ (((W.alloc (ar (b.cells bn aL az) 119)).alloc (ar #[.func (.yield l) #[] #[]] 159)).alloc (ar #[.func (.func 169) #[] #[pv W.heap.size 0,pv (W.heap.size+1) 0,pv (W.heap.size+1+1) 0]] 181)) h0 fun k hk=>(hb3 _ _ _).block k (hX k hk).2
 have hN:=fun(X1:Nat->Prop) (W1:ak) (n:Int) (h1:0<=n) (h2:n<=99) (pre:List eV) (hE:IB b bn aL az w0 W.heap.size (W.heap.size+1) (W.heap.size+1+1) l X1 W1) (hj:J pre X1 W1) (hp:pre++leaves (j_ b ss ms) ml 0 ⟨n,0,0,0⟩ <+: bu b ml ss ms)=>
  Vd b bn aL az ml ss ms w0 hB W.heap.size (W.heap.size+1) (W.heap.size+1+1) l (bu b ml ss ms) J Jx hJ X5 hY ml [] rfl ⟨n,0,0,0⟩ ⟨⟨h1,by show n<=400;omega⟩,sM,sM,sM⟩ pre X1 W1 hE hj hp
 have HN:=aj hN;have HE0:=aj hE0;have HS0:=aj EE;have HJ0:=aj hJ0;clear Zm hb3 hE0 EE hJ0 hN hY hJ hJx X5 ajN h0 hX hb hB;generalize vT:j_ b ss ms=ok at *;have hall:bu b ml ss ms=(gU b.ll b.lm).flatMap fun n=>leaves ok ml 0 ⟨n,0,0,0⟩:=by rw[<-vT];rfl
 rw[hall] at HN ⊢;clear hall vT
 go_enter Tryz.func117,Tryz.ntmps117
 go_wp2
 go_loopw [5] (fun v wr=>∃(k:Nat) (X1:Nat->Prop),v=ah af (b.ll+k)/\b.ll+k<=b.lm+1/\Step X X1 W wr/\IB b bn aL az w0 W.heap.size (W.heap.size+1) (W.heap.size+1+1) l X1 wr/\J (((gU b.ll b.lm).take k).flatMap fun n=>leaves ok ml 0 ⟨n,0,0,0⟩) X1 wr) (fun v _=>(b.lm+1-intOf v).toNat)
 case atStart=>exact⟨0,X,sM,oM,HS0.out,HE0.out,by simpa using HJ0.out⟩
 case round=>
  obtain⟨k,X1,rfl,hk,hst,Wd,hjk⟩:=hrel;obtain⟨x0,x1,x2,x3,x4,x5,x6,x7,x8,x9,qY,qX,r8,rT,rW⟩:=bZ Wd.lj;have n0:=aF Wd.hnk 0 _ rfl;have w2:IntKind.i64.wrap (b.ll+(k:Int)+1)=b.ll+((k+1:Nat):Int):=by rw[fO _ oM oM];omega
  by_cases hlt:b.ll+(k:Int)<=b.lm
  .obtain⟨yB,hkg⟩:=Fq hlt;have Tg:=Jp (gU b.ll b.lm) (fun n=>leaves ok ml 0 ⟨n,0,0,0⟩) yB;rw[hkg yB] at Tg
   have hih:=HN.out X1 wr (b.ll+k) oM oM _ Wd hjk (by
    rw[<-Tg];refine⟨((gU b.ll b.lm).drop (k+1)).flatMap fun n=>leaves ok ml 0 ⟨n,0,0,0⟩,?_⟩
    rw[<-List.flatMap_append,List.take_append_drop])
   have HIH:=aj hih;have HS2:=aj hst;have HF:=aj Tg;have HEr:=aj Wd;clear hih Tg hkg Wd hst hjk
   go_wp2_with (first
    |(go_at_call 169;refine HIH.out.mono ?_;clear HIH;rintro e W3 ⟨X3,hs3,(⟨rfl,hj3⟩|⟨rfl,q,hj3⟩)⟩))
   .go_roundw
    case rel=>
     refine⟨k+1,X3,sM,oM,HS2.out.trans hs3,HEr.out.step hs3,?_⟩;rw[HF.out];exact hj3
    case measure=>simp[intOf];omega
   (try simp only[Exit.inBlock,Exit.then]);refine bf (results_none rfl _ _ _) rfl ?_
   exact⟨⟨_,rfl⟩,X3,HS2.out.trans hs3,.inr ⟨q,hj3⟩⟩
  have hall:(gU b.ll b.lm).take k=gU b.ll b.lm:=cQ (by simp[gU];omega);rw[hall] at hjk;have HJK:=aj hjk;have HS:=aj hst;clear Wd hst hjk hall;go_wp2
  go_end0
  exact⟨⟨_,rfl⟩,X1,HS.out,bV HJK.out⟩
end Go.Proofs.YtffladgmkiimjaaGreatDoor
namespace Go.Lag
open Go Go.RowKit
def Whole(A:ai->Prop)(e:aV)(w:ak)(v:ai):Prop:=∀g,v.ownBlock=some g->∃cur,w.heap[g]?=some (.cells cur e (0,0))/\∀u∈cur,A u
def Hx{A:ai->Prop}{zs:Array ai}(h:∀u∈zs,A u)(n:Nat):∀u∈f_ zs n,A u:=by
 intro u hu;unfold f_ at hu;rw[Array.mem_map] at hu;obtain⟨i,hi,rfl⟩:=hu;have hlt:i<n*zs.size:=by simpa using hi
 have kY:0<zs.size:=by
  rcases Nat.eq_zero_or_pos zs.size with h0|h0
  .rw[h0] at hlt;simp at hlt
  exact h0
 have hk:=Nat.mod_lt i kY;rw[getElem!_pos zs _ hk];exact h _ (Array.getElem_mem hk)
def Lj{P:aK}(w:ak)(A:ai->Prop)(base:Nat)(t ty e:aV)(i:TypeInfo)(z:ai)(size tR:Nat)(ht:P.underlying t=some (.slice e))(hi:P.info? e=some i)(hz:i.zero=some z)
  (hsize:i.size=size) (hby:i.bytes=tR) (hzs:z.cells.size=size) (hsz:0<size)
  (v:ai) (n:Nat) (xs:List ai) (hown:w.ownsRow base e size v n xs)
  (a:dc) (m c:Nat) (news:List ai) (hl:news.length=m*size) (hnews:∀j u,news[j]?=some u->w.cell? (a.add j)=some u) (h1:∀u∈news,u.oneCell'=true)
  (h63:n+m<=maxLen) (hbytes:(n+m)*tR<=140737488355328) (hm:0<m)
  (hAz:∀u∈z.cells,A u) (hAn:∀u∈news,A u) (hAv:Whole A e w v) {v':ai} {w':ak}
  (hr:(Builtin.append_ #[t,t] ty #[v,.slice (some a) m c]).run P w=.ok v' w'):Whole A e w' v':=by
 subst hsize;subst hby;have abM:n+m<=9223372036854775807:=by simp only[maxLen] at h63;omega
 have hAx:∀u∈xs,A u:=by
  intro u hu;rcases hown.2 with⟨rfl,rfl⟩|⟨g,cap,cur,rfl,_,hg,_,_,_,VG⟩
  .have hx:xs=[]:=a_ (by simpa using hown.1);rw[hx] at hu;cases hu
  obtain⟨cur',Hj,hA⟩:=hAv g rfl;rw[hg] at Hj;obtain rfl:cur=cur':=by simpa using Hj
  rw[<-VG] at hu;exact hA u (by simpa using fV hu)
 have fin:∀(l:List ai) (k:Nat),(∀u∈l,A u)->∀u∈l.toArray++f_ z.cells k,A u:=by
  intro l k hl u hu;rw[Array.mem_append] at hu;rcases hu with h|h
  .exact hl u (by simpa using h)
  exact Hx hAz k u h
 rcases hown.2 with⟨rfl,rfl⟩|⟨g,cap,cur,rfl,hbg,hg,wA,hcm,hcs,VG⟩
 .have hr2:=run_append_nil (P:=P) w t ty e i z ht hi hz a m c news hl hnews hm (by omega) (by have hb:=hbytes;simp only[dz] at hb;omega);rw[hr2] at hr;cases hr;intro g hg;obtain rfl:w.heap.size=g:=by simpa [jD] using hg
  exact⟨_,heap_alloc_new w.drew _,fin _ _ hAn⟩
 by_cases hroom:n+m<=cap
 .have VZ:n*i.size+news.length<=cur.size:=by rw[hl,hcs,<-Nat.add_mul];exact Nat.mul_le_mul_right _ hroom
  have hr2:=run_append_room (P:=P) w t ty e i ht hi g n cap cur hg a m c news hl hnews h1 hroom VZ;rw[hr2] at hr;cases hr;intro g' Hj;obtain rfl:g=g':=by simpa [jD] using Hj
  refine⟨_,setRow_heap w g cur _ e _ hg,?_⟩;obtain⟨cur',hg2,hA⟩:=hAv g rfl;rw[hg] at hg2;obtain rfl:cur=cur':=by simpa using hg2
  intro u hu;simp only[List.mem_toArray,bL] at hu;rcases hu with(h|h)|h
  .exact hA u (by simpa using fV h)
  .exact hAn u h
  exact hA u (by simpa using List.mem_of_mem_drop h)
 have holds:∀j u,xs[j]?=some u->w.cell? ((⟨g,0,none⟩:dc).add j)=some u:=hown.cells (g:=g) rfl;have hr2:=run_append_grow (P:=P) w t ty e i z ht hi hz ⟨g,0,none⟩ n cap xs hown.1 holds a m c news hl hnews (by omega) (by omega) (growslice_fits (by omega) hbytes);rw[hr2] at hr;cases hr;intro g' Hj;obtain rfl:w.heap.size=g':=by simpa [jD] using Hj
 refine⟨_,heap_alloc_new w.drew _,?_⟩;rw[show xs.toArray++news.toArray=(xs++news).toArray by simp];refine fin _ _ fun u hu=>?_;rw[bL] at hu;exact hu.elim (hAx u) (hAn u)
section
variable{F:Fence}{nF:Nat}{P:aK}(w:ak)
theorem vR{aM:Array cY}{rest:List cY}{o:cY}{a:jY}{Q:Exit->jY->ak->Prop}(hgd:o.guard=none)(s x:bI)(t:aV)
  (ho:o.op=.call { callee:=.builtin .append,args:=#[s,x],argTypes:=#[t,t] })
  (A:ai->Prop) (base:Nat) (e:aV) (i:TypeInfo) (z:ai) (size tR:Nat) (ht:P.underlying t=some (.slice e)) (hi:P.info? e=some i) (hz:i.zero=some z)
  (hsize:i.size=size) (hby:i.bytes=tR) (hzs:z.cells.size=size) (hsz:0<size)
  (v:ai) (n:Nat) (xs:List ai) (hs:a.eval s=v) (hown:w.ownsRow base e size v n xs)
  (ad:dc) (m c:Nat) (news:List ai) (hx:a.eval x=.slice (some ad) m c) (hl:news.length=m*size) (hnews:∀j u,news[j]?=some u->w.cell? (ad.add j)=some u) (h1:∀u∈news,u.oneCell'=true)
  (h63:n+m<=maxLen) (hbytes:(n+m)*tR<=140737488355328) (hbase:base<=w.heap.size) (hm:0<m) (hAz:∀u∈z.cells,A u) (hAn:∀u∈news,A u) (hAv:Whole A e w v)
  (h:∀v' w',w'.ownsRow base e size v' (n+m) (xs++news)->w.grownBy w' v.ownBlock->Whole A e w' v'->(v'.ownBlock=v.ownBlock\/v'.ownBlock=some w.heap.size)->wpListIn F nF P aM Q rest (a.put o.dst v') w') :
  wpListIn F nF P aM Q (o::rest) a w:=by
 refine wpListIn_plain hgd fun K hK=>?_;obtain⟨v',w',hr,h2,h3,h4,h5⟩:=run_append_own_at (P:=P) w base t o.type e i z size tR ht hi hz hsize hby hzs hsz v n xs hown ad m c news hl hnews h1 h63 hbytes hbase;have h6:=Lj w A base t o.type e i z size tR ht hi hz hsize hby hzs hsz v n xs hown ad m c news hl hnews h1 h63 hbytes hm hAz hAn hAv hr;unfold Oper.wpIn;refine⟨by simp[Oper.about,ho,resolve,Target.leads,Sem.run_pure],?_⟩;rw[Oper.semAt_plain F _ _ (by rw[ho];intro c hc';cases hc')];simp[cC,ho,resolve,invoke,builtin,hs,hx,hr,Result.andThen];exact hK _ _ (h v' w' h2 h3 h6 h5)
end
end Go.Lag
namespace Go.Proofs.YtffladgmkiimjaaGreatDoor
open Go.RowKit Go.Lag
attribute [local go_sem] Oper.semAt_some
def Q6:(Tryz.prog.info? 134).map (fun i=>(i.zero,i.size,i.bytes))=some (some (.agg #[.int .i64 0,.int .i64 0,.int .i64 0,.int .i64 0]),4,32):=kQ
def Xy(u:ai):Prop:=∃n,u=.int .i64 n
def iE(W:ak)(base:Nat)(v:ai)(l:List eV):Prop:=W.ownsRow base 134 4 v l.length (rowOf l)/\Whole Xy 134 W v
def Vx(x:eV):∀u∈x.cells.toList,Xy u:=by
 intro u hu;simp at hu;rcases hu with rfl|rfl|rfl|rfl<;>exact⟨_,rfl⟩
def adz(n0 B:Nat)(pre:List eV)(X:Nat->Prop)(W:ak):Prop:=
 ∃v,Boxed W B 120 v/\iE W n0 v pre/\∀k,X k↔(k=B\/some k=v.ownBlock)
def dY{W W':ak}{base:Nat}{e:aV}{size:Nat}{v:ai}{k:Nat}{xs:List ai}(h:W.ownsRow base e size v k xs)(hs:∀g,v.ownBlock=some g->W'.heap[g]?=W.heap[g]?):W'.ownsRow base e size v k xs:=by
 refine⟨h.1,?_⟩;rcases h.2 with hn|⟨g,cap,cur,rfl,hb,Cc,rest⟩
 .exact .inl hn
 exact .inr ⟨g,cap,cur,rfl,hb,(hs g rfl).trans Cc,rest⟩
def iE.at_{W W':ak}{base:Nat}{v:ai}{l:List eV}(h:iE W base v l)(hs:∀g,v.ownBlock=some g->W'.heap[g]?=W.heap[g]?):iE W' base v l:=
 ⟨dY h.1 hs,fun g hg=>by obtain⟨cur,h1,h2⟩:=h.2 g hg;exact⟨cur,(hs g hg).trans h1,h2⟩⟩
def iE.base{W:ak}{base base':Nat}{v:ai}{l:List eV}(h:iE W base v l)(hb:base'<=base):iE W base' v l:=by
 refine⟨⟨h.1.1,?_⟩,h.2⟩;rcases h.1.2 with hn|⟨g,cap,cur,rfl,hb',rest⟩
 .exact .inl hn
 exact .inr ⟨g,cap,cur,rfl,aG hb hb',rest⟩
def iE.reads{W:ak}{base:Nat}{v:ai}{l:List eV}(h:iE W base v l)(hl:l.length<=4294967296):Reads W v l.length (rowOf l):=Reads.gG h.1 hl (by rw[h.1.1])
def N6(n0 B:Nat):Lag.Abides (adz n0 B):=by
 rintro pre X W W' ⟨v,h1,h2,h3⟩ hs;exact⟨v,(hs B ((h3 B).2 (.inl rfl))).trans h1,h2.at_ fun g hg=>hs g ((h3 g).2 (.inr hg.symm)),h3⟩
def GV(n0 B:Nat):Lag.D5 (adz n0 B):=by
 rintro pre X W ⟨v,h1,h2,h3⟩ k hk;rcases(h3 k).1 hk with rfl|h
 .exact h1.lt
 exact(h2.1.lt k h.symm).2
def ag_(n0 B:Nat)(bk:ai)(pre:List eV)(x:eV)(a:jY)(X:Nat->Prop)(W:ak):Prop:=
 ∃k v,a=⟨#[.slice none 0 0,.func (.func 117) #[bk] #[],pv B 0,au,.slice none 0 0,pv k 0,.func (.func 117) #[bk] #[],.agg x.cells,au,au,au,au,au],[]⟩/\
  Boxed W B 120 v/\iE W n0 v pre/\W.heap[k]?=some (.cells x.cells 134 (0,0))/\(∀j,X j↔(j=B\/j=k\/some j=v.ownBlock))
def N7(n0 B:Nat)(bk:ai)(pre:List eV)(x:eV):Lag.Abides (ag_ n0 B bk pre x):=by
 rintro a X W W' ⟨k,v,h0,h1,h2,h3,h4⟩ hs;exact⟨k,v,h0,(hs B ((h4 B).2 (.inl rfl))).trans h1,h2.at_ fun g hg=>hs g ((h4 g).2 (.inr (.inr hg.symm))),(hs k ((h4 k).2 (.inr (.inl rfl)))).trans h3,h4⟩
def vt{n D:Nat}(W:ak)(o:Obj)(h:n<=D):gu n W (W.putObj D o):=⟨rfl,rfl,rfl,sM,fun k hk=>dS oM⟩
def Fh(l:List eV)(x:eV):rowOf (l++[x])=rowOf l++x.cells.toList:=by simp[rowOf]
def Ir(bk:ai)(all:List eV)(hall:all.length<=1000)(w0:ak)(hseq:adg aq 117 #[bk] TH all w0)(w:ak)(hb:Bw w0 w) :
  bm aq 168 #[.slice none 0 0,.func (.func 117) #[bk] #[]] w fun e w'=>∃v,e=.returned v/\iE w' w.heap.size v all/\Bw w w':=by
 obtain⟨i0,hi,hz0,hz1,hz2⟩:=info_parts Q6;have HSQ:=aj hseq;clear hseq;refine callsIn_wide (n:=0).1 (callsIn_of_wp_marks Tryz.func168 rfl trivial ?_ rfl);simp only[Tryz.ntmps168,jS,eT,o7,Et,Er,kE,kD,jT,iO,jE,fq]
 gi_wp2
 have hb1:Bw w (w.alloc (.cells #[.slice none 0 0] 120)):=dF;have hs0:=hb.size
 refine tT (gf:=117) (la:=#[bk]) rfl (enters_of Tryz.func117 kQ rfl) (encs:=TH) (all:=all) (w0:=w0) HSQ.out (hb.trans (hb1.mono hs0)) (fun _=>rfl) (adz w.heap.size w.heap.size) (fun _ _ _ _=>False) (N6 _ _) (fun _ _ _ _ _ h _=>h) (GV _ _) (fun _ _ _ _ h=>h.elim)
  (fun k=>k=w.heap.size) (by rintro k rfl;exact⟨hs0,sM⟩) ⟨_,Boxed.new _ _ _,⟨World.ownsRow_nil _ _ _ _,fun g hg=>by simp[jD] at hg⟩,fun k=>by simp[jD]⟩ (ag_ w.heap.size w.heap.size bk) (N7 _ _ _) ?rassign ?rbody ?rdone ?rstop
 case rassign=>
  intro l m pre x X1 W K hI hge hpre hK;obtain⟨v,h1,h2,h3⟩:=hI;have hX1:=GV _ _ _ _ _ ⟨v,h1,h2,h3⟩;have HK:=aj hK;clear hK
  gi_wp2
  refine HK.out _ (fun j=>X1 j\/j=W.heap.size) _ ⟨rfl,rfl,rfl,sM,?_,?_⟩ ⟨W.heap.size,v,rfl,h1.alloc _,h2.at_ (fun g hg=>aY _ _ _ (h2.1.lt g hg).2),aw _ _,fun j=>?_⟩
  .rintro j hj (h|rfl)
   .exact h
   omega
  .intro j hj _;exact aY _ _ _ hj
  show(X1 j\/j=W.heap.size)↔_;rw[h3];constructor
  .rintro((h|h)|h)
   .exact .inl h
   .exact .inr (.inr h)
   exact .inr (.inl h)
  rintro(h|h|h)
  .exact .inl (.inl h)
  .exact .inr h
  exact .inl (.inr h)
 case rbody=>
  rintro l m pre x a' X1 W ⟨k,v,rfl,h1,h2,h3,h4⟩ hge hpre;have hlen:pre.length+1<=1000:=by have:=hpre.length_le;simp at this;omega
  have c0:=aF h3 0 _ rfl;have c1:=aF h3 1 _ rfl;have c2:=aF h3 2 _ rfl;have c3:=aF h3 3 _ rfl;have b0:=h1.cell;have hw1:w.heap.size<=W.heap.size:=Nat.le_of_lt h1.lt
  have HQ2:Hid (∀u∈(Value.agg #[.int .i64 0,.int .i64 0,.int .i64 0,.int .i64 0]).cells,Xy u):=aj fun u hu=>by
   have h:u∈#[ax .i64 0,.int .i64 0,.int .i64 0,.int .i64 0]:=hu;simp at h;exact⟨0,h⟩
  have HQ3:Hid (Whole Xy 134 (W.alloc (.cells x.cells 134)) v):=aj fun g hg=>by
   obtain⟨cur,q1,q2⟩:=h2.2 g hg;exact⟨cur,(aY _ _ _ (h2.1.lt g hg).2).trans q1,q2⟩
  have Z1:Hid (∀(j:Nat) (u:ai),x.cells.toList[j]?=some u->(W.alloc (.cells x.cells 134)).cell? ((⟨W.heap.size,0,none⟩:dc).add j)=some u):=aj fun j u hj=>by
   have:=aw W (.cells x.cells 134);have h5:=aF this j u (by simpa using hj);have e:(⟨W.heap.size,0,none⟩:dc).add j=⟨W.heap.size,j,none⟩:=by cases j<;>simp[Addr.add]
   rw[e];exact h5
  gi_wp2_with (first
   |(gi_at_builtin;refine vR _ rfl _ _ 120 rfl Xy w.heap.size 134 i0 (.agg #[.int .i64 0,.int .i64 0,.int .i64 0,.int .i64 0]) 4 32 Tryz.underlying120 hi hz0 hz1 hz2 rfl dC _ _ _ rfl (h2.1.alloc _) ⟨W.heap.size,0,none⟩ 1 1 x.cells.toList rfl rfl Z1.out (by simp[bJ]) (by unfold maxLen;omega) oM sO dC HQ2.out (Vx x) HQ3.out ?_
     intro v' w1 hown' hgrow hwh hat;obtain⟨p1,p2,p3,p4,p5⟩:=Boxed.appended h1 dC h2.1 hw1 (aJ _) hown' hgrow;obtain⟨g',cap',rfl⟩:=ownsRow_succ hown';have f1:=p1.cell;have f2:=p1.frozen;have HO:=aj (And.intro p2 (And.intro p3 (And.intro hgrow (And.intro hat hwh))));have afi:=p1.not_row dC hown';have HPN:=aj afi
     clear p2 p3 p4 p5 hown' hgrow hwh hat afi))
  obtain⟨p2,p3,hgrow,hat,hwh⟩:=HO.out;refine⟨fun j=>j=w.heap.size\/some j=jD (.slice (some ⟨g',0,none⟩) (pre.length+1) cap'),⟨hgrow.os,hgrow.tape,hgrow.output,by have:=hgrow.size;simp at this ⊢;omega,?_,?_⟩,_,p2,?_,fun j=>Iff.rfl⟩
  .rintro j hj (rfl|h)
   .exact(h4 _).2 (.inl rfl)
   rcases hat with e|e
   .rw[e] at h;exact(h4 _).2 (.inr (.inr h))
   rw[e] at h;simp at h;omega
  .intro j hj hx;have hx2:=fun h=>hx ((h4 j).2 h);refine(aW _ _ _ _ (fun e=>hx2 (.inl e))).trans ((hgrow.block j sO (fun e=>hx2 (.inr (.inr e)))).trans (aY _ _ _ hj))
  refine⟨by rw[Fh,qK];exact p3,fun g hg=>?_⟩;obtain⟨cur,q1,q2⟩:=hwh g hg;exact⟨cur,(aW _ _ _ _ (fun e=>HPN.out ((congrArg some (show w.heap.size=g from e.symm)).trans hg.symm))).trans q1,q2⟩
 case rdone=>
  rintro D X2 W hD hXD hst ⟨v,h1,h2,h3⟩ hK;have b0:=h1.cell;have vV:Bw w W:=hb1.trans (hst.below sM (by rintro k hk rfl;omega));have HB:=aj vV;have HO:=aj h2;have HK:=aj hK;clear vV h2 h3 hst
  have Pz:(∃n cap,v=.slice none n cap)\/∃g n cap,v=.slice (some g) n cap:=by
   rcases HO.out.1.2 with⟨rfl,_⟩|⟨g,cap,cur,rfl,_⟩
   .exact .inl ⟨_,_,rfl⟩
   exact .inr ⟨_,_,_,rfl⟩
  rcases Pz with⟨n,cap,rfl⟩|⟨g,n,cap,rfl⟩
  all_goals
   gi_wp2
   refine⟨sM,.inl ⟨_,_,rfl,run_takeDeferred HK.out,?_⟩⟩;exact⟨_,cg rfl _ _ _,_,rfl,HO.out.at_ (fun g hg=>dS (fun e=>by obtain⟨cur,q1,_⟩:=HO.out.2 g hg;have hk:=HK.out;rw[<-e,q1] at hk;cases hk)),HB.out.trans (vt _ _ (by simp at hD;omega))⟩
 case rstop=>
  rintro D c pre X2 W _ _ _ h;exact h.elim
def Fp(lo hi:Int):(gU lo hi).length=(hi+1-lo).toNat:=by simp[gU]
def Gc{α β:Type}(f:α->List β)(n:Nat):∀(l:List α),(∀x∈l,(f x).length<=n)->(l.flatMap f).length<=l.length*n
 |[],_=>by simp
 |x::l,h=>by
  have h1:=h x sM;have h2:=Gc f n l fun y hy=>h y (by simp[hy]);simp only[List.flatMap_cons,qK,eT,Nat.add_mul];omega
def FP(ok:eV->Bool):∀(r:List Mn) (mE:Nat) (a:eV),(∀m∈r,m.hi-m.lo<3)->(leaves ok r mE a).length<=3 ^ r.length
 |[],mE,a,_=>by simp only[leaves];split<;>simp
 |m::r,mE,a,h=>by
  have h1:=Gc (fun n=>leaves ok r (mE+1) (a.put mE n)) (3 ^ r.length) (gU m.lo m.hi) fun n _=>FP ok r (mE+1) _ fun m' hm=>h m' (by simp[hm]);have h2:=Fp m.lo m.hi;have h3:=h m sM;have h4:(gU m.lo m.hi).length<=3:=oM;show((gU m.lo m.hi).flatMap _).length<=_;refine aG h1 ?_;rw[eT,Nat.pow_succ,Nat.mul_comm];exact Nat.mul_le_mul_left _ h4
def jQ{b:BB}{ml:List Mn}(ss:List Int)(ms:List Mk)(hb:b.Ok)(hm:xp ml):(bu b ml ss ms).length<=81:=by
 have h1:=Gc (fun n=>leaves (j_ b ss ms) ml 0 ⟨n,0,0,0⟩) 27 (gU b.ll b.lm) fun n _=>by
  have h2:=FP (j_ b ss ms) ml 0 ⟨n,0,0,0⟩ fun m h=>(hm.mem m h).2.2.2.2;have h3:3 ^ ml.length<=3 ^ 3:=Nat.pow_le_pow_right oM hm.len;omega
 have h2:=Fp b.ll b.lm;have h3:=hb.leak;unfold bu;omega
def pY(b:BB)(bn aL az:ai)(ml:List Mn)(ss:List Int)(ms:List Mk)(w:ak)(hB:dh b bn aL az ml ss ms w) :
  bm aq 116 #[.func (.func 117) #[.agg (b.cells bn aL az)] #[]] w fun e w'=>∃v,e=.returned v/\iE w' w.heap.size v (bu b ml ss ms)/\Bw w w':=by
 have hl:=jQ ss ms hB.ok hB.iF;have H:=aj (Ir (.agg (b.cells bn aL az)) (bu b ml ss ms) oM w (Ju b bn aL az ml ss ms w hB) w (ay _ _));clear hB;generalize bu b ml ss ms=all at *
 go_enter Tryz.func116,Tryz.ntmps116
 go_wp2_with (go_at_call 168;refine H.out.mono ?_;rintro e w' ⟨v,rfl,ho,hb⟩;have HO:=aj ho;clear ho)
 go_ret
 exact⟨v,rfl,HO.out,hb⟩
def Ac{fn:Func}{t:j5}(h:fn.results = #[.cell t 4]){tmps:Array ai}{w:ak}{B:Nat}{z:Bool}(hp:tmps.getD t au=pv B 0)(hc:w.cell? ⟨B,0,none⟩=some (.bool z)) :
  (results fn tmps).run aq w=.ok (.bool z) w:=by
 rw[aZ] at hp;unfold results;rw[h];simp only[List.mapM_toArray,go_sem];go_simp
def LV(b:BB)(bn aL az:ai)(ml:List Mn)(ss:List Int)(ms:List Mk)(w:ak)(hB:dh b bn aL az ml ss ms w) :
  bm aq 119 #[.agg (b.cells bn aL az)] w (Rt w (.bool (decide (bu b ml ss ms≠[])))):=by
 have HSQ:=aj (Ju b bn aL az ml ss ms w hB);clear hB;generalize bu b ml ss ms=all at *;refine callsIn_wide (n:=0).1 (callsIn_of_wp_marks Tryz.func119 rfl trivial ?_ rfl);simp only[Tryz.ntmps119,jS,eT,o7,Et,Er,kE,kD,jT,iO,jE,fq]
 gi_wp2
 have hb1:Bw w ((w.alloc (.cells (b.cells bn aL az) 119)).alloc (.cells #[.bool false] 4)):=dF.alloc sM _
 have V7:Boxed ((w.alloc (.cells (b.cells bn aL az) 119)).alloc (.cells #[.bool false] 4)) (w.heap.size+1) 4 (.bool false):=by
  have:=Boxed.new (w.alloc (.cells (b.cells bn aL az) 119)) 4 (.bool false);rwa [eD] at this
 refine tT (gf:=117) (la:=#[.agg (b.cells bn aL az)]) rfl (enters_of Tryz.func117 kQ rfl) (encs:=TH) (all:=all) (w0:=w) HSQ.out hb1 (fun _=>rfl)
  (fun pre X W=>pre=[]/\Boxed W (w.heap.size+1) 4 (.bool false)/\∀k,X k↔k=w.heap.size+1) (fun c _ X W=>c=.ret/\all≠[]/\Boxed W (w.heap.size+1) 4 (.bool true)/\∀k,X k↔k=w.heap.size+1)
  (fun _ _ _ _ h hs=>⟨h.1,(hs _ ((h.2.2 _).2 rfl)).trans h.2.1,h.2.2⟩) (fun _ _ _ _ _ h hs=>⟨h.1,h.2.1,(hs _ ((h.2.2.2 _).2 rfl)).trans h.2.2.1,h.2.2.2⟩)
  (fun _ _ _ h k hk=>by rw[(h.2.2 k).1 hk];exact h.2.1.lt) (fun _ _ _ _ h k hk=>by rw[(h.2.2.2 k).1 hk];exact h.2.2.1.lt)
  (fun k=>k=w.heap.size+1) (by rintro k rfl;exact⟨oM,sM⟩) ⟨rfl,V7,fun _=>Iff.rfl⟩
  (fun pre x a' X W=>a'=⟨#[.agg (b.cells bn aL az),pv w.heap.size 0,pv (w.heap.size+1) 0,.agg (b.cells bn aL az),.func (.func 117) #[.agg (b.cells bn aL az)] #[],.agg x.cells],[]⟩/\Boxed W (w.heap.size+1) 4 (.bool false)/\∀k,X k↔k=w.heap.size+1)
  (fun _ _ _ _ _ _ h hs=>⟨h.1,(hs _ ((h.2.2 _).2 rfl)).trans h.2.1,h.2.2⟩) ?rassign ?rbody ?rdone ?rstop
 case rassign=>
  rintro l m pre x X1 W K ⟨rfl,h1,h2⟩ hge hpre hK;have HK:=aj hK;clear hK
  gi_wp2
  exact HK.out _ X1 _ (Step.refl _ _) ⟨sM,h1,h2⟩
 case rbody=>
  rintro l m pre x a' X1 W ⟨rfl,h1,h2⟩ hge hpre;have c0:=h1.cell;have c1:=h1.frozen
  have hne:all≠[]:=by
   rintro rfl;have:=hpre.length_le;simp at this
  have HN:=aj hne;clear hne
  gi_wp2
  refine⟨X1,⟨rfl,rfl,rfl,sM,fun _ _ h=>h,fun k hk hx=>aW _ _ _ _ (by rintro rfl;exact hx ((h2 _).2 rfl))⟩,rfl,HN.out,h1.set _,h2⟩
 case rdone=>
  rintro D X2 W hD hXD hst ⟨rfl,h1,h2⟩ hK;have b0:=h1.cell;have b1:=h1.frozen;have vV:Bw w W:=hb1.trans (hst.below sO (by rintro k hk rfl;omega));have HB:=aj vV;have HK:=aj hK;have HH:=aj h1;clear vV h2 hst hK
  gi_wp2
  simp only[eD] at hD;have hlt:=HH.out.lt;refine⟨sM,.inl ⟨_,_,rfl,run_takeDeferred ((aW _ _ _ _ (by show D≠w.heap.size+1;omega)).trans HK.out),?_⟩⟩;refine⟨_,Ac (B:=w.heap.size+1) (z:=false) rfl rfl ((World.cell?_of_block (dS (by show w.heap.size+1≠D;omega))).trans (HH.out.set _).cell),sM,?_⟩;exact(HB.out.setCell (p:=⟨w.heap.size+1,0,none⟩) (by show _<=w.heap.size+1;omega) _).trans (vt _ _ oM)
 case rstop=>
  rintro D c pre X2 W hD hXD hst ⟨rfl,hne,h1,h2⟩ hK;have vV:Bw w W:=hb1.trans (hst.below sO (by rintro k hk rfl;omega));have HB:=aj vV;have HK:=aj hK;have HH:=aj h1;have HN:=aj hne;clear vV h2 hst hK hne h1
  gi_wp2
  simp only[eD] at hD;refine⟨sM,.inl ⟨_,_,rfl,run_takeDeferred HK.out,?_⟩⟩;refine⟨_,Ac (B:=w.heap.size+1) (z:=true) rfl rfl ((World.cell?_of_block (dS (by show w.heap.size+1≠D;omega))).trans HH.out.cell),by simp[HN.out],?_⟩;exact HB.out.trans (vt _ _ oM)
abbrev iM:Array Value:=#[.int .i64 0,.int .i64 0,.int .i64 0,.int .i64 0,.int .i64 0,.int .i64 0,.int .i64 0,.int .i64 0,.int .i64 0,.int .i64 0,.int .i64 0,.int .i64 0,.slice none 0 0,.slice none 0 0,.slice none 0 0,.slice none 0 0]
def dn{w:ak}{B i:Nat}{cs:Array ai}{t:aV}(u:ai)(h:w.heap[B]?=some (.cells cs t (0,0))):(w.setCell ⟨B,i,none⟩ u).heap[B]?=some (.cells (cs.setIfInBounds i u) t (0,0)):=by
 obtain⟨hk,h⟩:=ag.1 h;simp[kJ,hk,h,CW]
def cD{w:ak}{B:Nat}{cs new:Array ai}{t:aV}(h:w.heap[B]?=some (.cells cs t (0,0))):(w.setRow B new).heap[B]?=some (.cells new t (0,0)):=by
 obtain⟨hk,h⟩:=ag.1 h;simp[World.setRow,hk,h,CW]
def setRow_other{w:ak}{B k:Nat}{new:Array ai}(h:k≠B):(w.setRow B new).heap[k]?=w.heap[k]?:=by
 simp[World.setRow,Array.getElem?_modify,Ne.symm h]
def setRow_size{w:ak}{B:Nat}{new:Array ai}:(w.setRow B new).heap.size=w.heap.size:=by simp[World.setRow]
def dx{n B:Nat}{a w:ak}{new:Array ai}(h:gu n a w)(hB:n<=B):gu n a (w.setRow B new):=
 ⟨h.os,h.tape,h.output,by rw[setRow_size];exact h.size,fun k hk=>(setRow_other oM).trans (h.block k hk)⟩
def results_cell_tmp{fn:Func}{p q:j5}{ty:aV}(h:fn.results = #[.cell p ty,.tmp q]){tmps:Array ai}{w:ak}{g:Nat}{cs:Array ai}
  (hp:tmps.getD p au=pv g 0)
  (hl:(loadVar ty ⟨g,0,none⟩).run aq w=.ok (.agg cs) w) :
  (results fn tmps).run aq w=.ok (.tuple #[.agg cs,tmps.getD q au]) w:=by
 have hp':tmps[p]?.getD au=pv g 0:=by simpa using hp
 simp[results,h,hp',asAddr,hl]
def Aj(b:BB)(bn aL az:ai)(ml:List Mn)(ss:List Int)(ms:List Mk)(w:ak)(hL:Laid w)(hB:dh b bn aL az ml ss ms w)(hne:bu b ml ss ms≠[])
  (hown:∀W,Bw w W->bm aq 122 #[.agg (b.cells bn aL az)] W fun e W'=>e=.returned (.int .i64 0)/\Bw W W') :
  bm aq 103 #[.agg (b.cells bn aL az),.func (.func 122) #[] #[]] w fun e w'=>∃v,e=.returned (.tuple #[.agg (b.open bn aL az v),.int .i64 0])/\iE w' w.heap.size v (bu b ml ss ms)/\Bw w w':=by
 have uL:Hid (∀W,Bw w W->bm aq 71 #[.agg (b.cells bn aL az)] W fun e w'=>e=.returned (.int .i64 0)/\Bw W w'):=aj fun W hb=>fh b bn aL az ml ss ms W (hL.below hb) (hB.below hb);have XG:Hid (∀W,Bw w W->bm aq 116 #[.func (.func 117) #[.agg (b.cells bn aL az)] #[]] W fun e w'=>∃v,e=.returned v/\iE w' W.heap.size v (bu b ml ss ms)/\Bw W w'):=aj fun W hb=>pY b bn aL az ml ss ms W (hB.below hb);have Og:=aj hown;obtain⟨pm,cm,rfl,_⟩:=aR hB.rm;obtain⟨pn,cn,rfl,_⟩:=aR hB.rs;obtain⟨pk,ck,rfl,_⟩:=aR hB.rk;have kY:0<(bu b ml ss ms).length:=List.length_pos_iff.2 hne;clear hL hB hne hown;generalize bu b ml ss ms=all at *;generalize ml.length=lm at *;generalize ss.length=ln at *;generalize ms.length=lk at *;have b0:Bw w ((w.alloc (.cells (b.sl pm lm cm pn ln cn pk lk ck) 28)).alloc (.cells iM 122)):=dF.alloc sM _;have HT:Hid (Two w (b.sl pm lm cm pn ln cn pk lk ck) 28 iM 122 ((w.alloc (.cells (b.sl pm lm cm pn ln cn pk lk ck) 28)).alloc (.cells iM 122))):=aj ⟨(Two.mk' w _ _ _ _).one,(Two.mk' w _ _ _ _).two,b0,sM⟩;have LB:=aj b0;clear b0
 go_enter Tryz.func103,Tryz.ntmps103
 go_wp2_with (first
  |(refine wpList_load_row rfl 122 _ rfl _ rfl 122 _ (0,0) _ HL7.out js rfl kQ ?_)
  |(refine wpList_store_row rfl 122 _ _ rfl _ _ rfl rfl 122 _ Qu.out kQ rfl (by simp[bJ]) ?_)
  |(go_at_call 71;refine(uL.out _ LB.out).mono ?_;clear uL;rintro e w1 ⟨rfl,hb1⟩
    have tO:=HT.out.next hb1;have qf:=aj tO
    obtain⟨x0,x1,x2,x3,x4,x5,x6,x7,x8,x9,qY,qX,r8,rT,rW⟩:=bZ tO.one
    clear tO hb1)
  |(go_at_call 122;refine(Og.out _ (qf.out.below.alloc (by have:=qf.out.size;omega) _)).mono ?_;clear Og;rintro e w2 ⟨rfl,hb2⟩
    have Ea:=(qf.out.next ((ay _ _).alloc (aJ _) (.cells (b.open (.slice pm lm cm) (.slice pn ln cn) (.slice pk lk ck) (.slice none 0 0)) 122))).next hb2;have Iw:=aj Ea
    have hk2:=(hb2.block w1.heap.size sM).trans (aw w1 _);have Iz:=aj hk2;have hs1:=qf.out.size;have hs2:=hb2.size;obtain⟨y0,y1,y2,y3,y4,y5,y6,y7,y8,y9,Ow,Qz,Qy,Qx,LD,JL⟩:=jO hk2
    clear Ea hk2 hb2)
  |(go_at_call 116;refine(XG.out _ Iw.out.below).mono ?_;clear XG;rintro e w3 ⟨v,rfl,jA,hb3⟩
    have Hg:=Iw.out.next hb3;have RN:=aj Hg;have Oh:=aj jA
    simp only[eD] at hs2;have hk3:=(hb3.block w1.heap.size oM).trans Iz.out;have HK3:=aj hk3;have hs3:=hb3.size;clear y0 y1 y2 y3 y4 y5 y6 y7 y8 y9 Ow Qz Qy Qx LD JL;have JL:=aF hk3 15 _ rfl;have f7:=dm hk3 15;have qz:=aj hb3
    obtain⟨gv,pZ,rfl,FY⟩:∃gv pZ,v=.slice (some ⟨gv,0,none⟩) all.length pZ/\w2.heap.size<=gv:=by
     rcases jA.1.2 with⟨_,h0⟩|⟨g,cap,cur,rfl,hg,_⟩
     .omega
     exact⟨g,cap,rfl,hg⟩
    have HL7:Hid ((w3.setCell ⟨w1.heap.size,15,none⟩ (.slice (some ⟨gv,0,none⟩) all.length pZ)).heap[w1.heap.size]?=some (.cells (b.open (.slice pm lm cm) (.slice pn ln cn) (.slice pk lk ck) (.slice (some ⟨gv,0,none⟩) all.length pZ)) 122 (0,0))):=aj (dn _ hk3);have Qu:Hid ((w3.setCell ⟨w1.heap.size,15,none⟩ (.slice (some ⟨gv,0,none⟩) all.length pZ)).heap[w.heap.size+1]?=some (.cells iM 122 (0,0))):=aj ((aW _ _ _ _ (by show w.heap.size+1≠w1.heap.size;omega)).trans Hg.two)
    clear Hg hk3 hb3 jA))
 refine bf (results_cell_tmp (g:=w.heap.size+1) rfl rfl (run_loadVar_row _ _ 122 122 _ (0,0) _ (cD Qu.out) js rfl kQ)) rfl ⟨_,rfl,?_,?_⟩
 .have hs1:=qf.out.size;refine(Oh.out.at_ fun g hg=>?_).base oM;have Cc:g=gv:=by simpa [jD] using hg.symm
  subst Cc;exact(setRow_other oM).trans (aW _ _ _ _ (by show g≠w1.heap.size;omega))
 have hs1:=qf.out.size;exact dx (RN.out.below.setCell (p:=⟨w1.heap.size,15,none⟩) (by show _<=w1.heap.size;omega) _) oM
end Go.Proofs.YtffladgmkiimjaaGreatDoor
namespace Go.Lag
open Go Go.RowKit Go.Proofs.YtffladgmkiimjaaGreatDoor
abbrev Es:=List (j5 × En)
def YK(d:j5)(ch:List (Nat × Bool)):Bool:=ch.all fun p=>!Nat.beq p.1 d
section
variable(P:aK)(aM:Array cY)(base:List (j5 × ai))(C:Cf)(n:Nat)
def rV(es:Es):bI->ai
 |.const v=>v
 |.global g=>.pointer (some ⟨g,0,none⟩)
 |.func f=>.func (.func f) #[] #[]
 |.tmp t=>match mQ es t with
  |some e=>e.2.1
  |none=>(mQ base t).getD au
def T_(es:Es)(ch:List (Nat × Bool)):bI->Bool
 |.tmp t=>match mQ es t with
  |some e=>subs e.1 ch
  |none=>(mQ base t).isSome
 |_=>true
def TQ(es:Es)(g:j5):List (Nat × Bool):=match mQ es g with|some e=>e.1|none=>[]
def Tx(es:Es)(o:cY):Option (List (Nat × Bool)):=
 match o.guard with
 |none=>some []
 |some (j,b)=>match eC aM j with
  |none=>none
  |some g=>match mQ C.lits g with
   |some b'=>bif b'==b then some (TQ es g) else none
   |none=>some ((g,b)::TQ es g)
def abA:bI->Option Bool
 |.tmp t=>mQ C.lits t
 |_=>none
def QA(c:bI)(b:Bool)(ch:List (Nat × Bool)):List (Nat × Bool):=
 match c with
 |.tmp t=>(t,b)::ch
 |_=>ch
def Jc(es:Es)(i:Nat)(o:cY):Option (Next × List Nat):=look P (Xa C i) (cC (rV base es) o)
def yR(es:Es)(i:Nat)(o:cY):ai × List Nat:=
 match mQ C.hs i with
 |some v=>(v,[])
 |none=>match o.op with
  |.pick c a b=>(match abA C c with
   |some true=>rV base es a
   |some false=>rV base es b
   |none=>bools (rV base es c) (rV base es a) (rV base es b),[])
  |_=>match Jc P base C es i o with
   |some (.value v,bl)=>(v,bl)
   |_=>(au,[])
def tF(es:Es)(i:Nat)(o:cY):En:=
 match Tx aM C es o with
 |none=>([],au,[])
 |some ch=>(ch,yR P base C es i o)
def OZ(es:Es)(i:Nat)(o:cY):Es:=
 match o.dst with
 |some d=>(d,tF P aM base C es i o)::es
 |none=>es
def Hv:Nat->List cY->Es->Es
 |_,[],es=>es
 |i,o::l,es=>Hv (i+1) l (OZ P aM base C es i o)
def kj(es:Es)(ch:List (Nat × Bool)):Bool:=ch.all fun p=>Pt (rV base es (.tmp p.1)) p.2
def okO(es:Es)(i:Nat)(o:cY)(ch:List (Nat × Bool)):Bool:=
 match o.op with
 |.pick c a b=>(mQ C.hs i).isNone&&T_ base es ch c&&(match abA C c with
  |some true=>Pt (rV base es c) true&&T_ base es ch a
  |some false=>Pt (rV base es c) false&&T_ base es ch b
  |none=>isBool (rV base es c)&&isBool (rV base es a)&&isBool (rV base es b)&&T_ base es (QA c true ch) a&&T_ base es (QA c false ch) b)
 |_=>(match vE o.op with
   |some l=>l.all (T_ base es ch)
   |none=>false) &&
  (match mQ C.hs i with
  |some _=>true
  |none=>match Jc P base C es i o with
   |some (.value _,bl)=>(rz C i).isSome||bl.isEmpty
   |_=>false)
def Wq(es:Es)(o:cY):Bool:=
 match o.guard with
 |none=>true
 |some (j,_)=>match eC aM j with
  |none=>false
  |some g=>((mQ es g).isSome||(mQ base g).isSome)&&(match mQ C.lits g with | some b'=>Pt (rV base es (.tmp g)) b' | none=>true)
def Rx(es:Es)(e:En)(o:cY):Bool:=
 match o.dst with
 |none=>true
 |some d=>Nat.blt d n&&YK d e.1&&es.all fun p=>YK d p.2.1
def ZC:Nat->List cY->Es->Bool
 |_,[],_=>true
 |i,o::l,es=>(Wq aM base C es o&&(match Tx aM C es o with
  |none=>true
  |some ch=>okO P base C es i o ch)&&Rx n es (tF P aM base C es i o) o)&&ZC (i+1) l (OZ P aM base C es i o)
def YR:Nat->List cY->Es->List (List Nat)
 |_,[],_=>[]
 |i,o::l,es=>(tF P aM base C es i o).2.2::YR (i+1) l (OZ P aM base C es i o)
def YQ:Nat->List cY->Es->List (List Nat)
 |_,[],_=>[]
 |i,o::l,es=>((tF P aM base C es i o).2.2.map fun _=>((rz C i).map (·.1)).getD 0)::YQ (i+1) l (OZ P aM base C es i o)
def AZ(i k:Nat):List Oper:=(aM.toList.drop i).take k
def NB(i j:Nat):Es:=Hv P aM base C i (AZ aM i (j-i)) []
def Uk(G:Nat->iZ Next->ak->ai->Prop)(S:ak->Prop)(i:Nat):List (Nat × ai)->Prop
 |[]=>True
 |p::l=>(∀w,S w->kj base (NB P aM base C i p.1) (tF P aM base C (NB P aM base C i p.1) p.1 (opAt aM p.1)).1=true->G p.1 (cC (rV base (NB P aM base C i p.1)) (opAt aM p.1)) w p.2)/\Uk G S i l
def aeu(es:Es)(t:j5):Option Value:=
 match mQ es t with
 |some e=>match e.1 with|[]=>some e.2.1|_=>none
 |none=>none
structure Od(a0:jY)(es:Es)(a:jY):Prop where
 size:a.tmps.size=n
 defers:a.defers=[]
 ent:∀t e,mQ es t=some e->a.eval (.tmp t)=Nk (kj base es e.1) e.2.1
 bas:∀t v,mQ es t=none->mQ base t=some v->a.eval (.tmp t)=v
 keep:∀t,mQ es t=none->a.eval (.tmp t)=a0.eval (.tmp t)
structure xV(Wp:List Nat->jY->ak->Prop)(Y:mY):Prop where
 go:∀i rest o a w R,aM[i]?=some o->dg o (ku aM a.tmps)=true->Y o a.eval w R->(∀v w',R v w'->Wp rest (a.put o.dst v) w')->Wp (i::rest) a w
 no:∀i rest o a w,aM[i]?=some o->¬dg o (ku aM a.tmps)=true->Wp rest (a.put o.dst au) w->Wp (i::rest) a w
def wO(dQ:List (j5 × ai))(i k:Nat)(outs:List (j5 × ai)):Bool × List (List Nat) × List (Option ai):=
 (Nat.ble (i+k) aM.size&&(dQ.all fun p=>(mQ (Hv P aM base C i (AZ aM i k) []) p.1).isNone)&&ZC P aM base C n i (AZ aM i k) [],YR P aM base C i (AZ aM i k) [],outs.map fun p=>aeu (Hv P aM base C i (AZ aM i k) []) p.1)
def wN(i k:Nat)(outs:List (j5 × ai)):Bool × List (List Nat) × List (Option ai):=(true,YQ P aM base C i (AZ aM i k) [],outs.map fun p=>some p.2)
end
section
variable{P:aK}{aM:Array cY}{base:List (j5 × ai)}{C:Cf}{n:Nat}{S:ak->Prop}{a0:jY}
theorem wU{β:Type}(d:Nat)(e:β)(es:List (Nat × β))(t:Nat):mQ ((d,e)::es) t=if d=t then some e else mQ es t:=by
 show(bif Hm d t then some e else mQ es t)=_;cases hb:Hm d t with
 |true=>rw[if_pos (iJ hb)];rfl
 |false=>rw[if_neg (fun h=>by subst h;rw[Nat.beq_refl] at hb;cases hb)];rfl
theorem EH{es:Es}{t:j5}:rV base es (.tmp t)=match mQ es t with|some e=>e.2.1|none=>(mQ base t).getD undef:=rfl
theorem LM{o:cY}{j g:Nat}{b:Bool}{a:jY}(hgd:o.guard=some (j,b))(Om:eC aM j=some g):dg o (ku aM a.tmps)=true↔a.eval (.tmp g)=.bool b:=by
 have hd:(aM[j]?).bind (·.dst)=some g:=Om;have hy:ku aM a.tmps j=match a.tmps[g]? with|some (.bool x)=>some x|_=>none:=by unfold ku;rw[hd];rfl
 have he:a.eval (.tmp g)=(a.tmps[g]?).getD undef:=by unfold Act.eval;simp only[aZ]
 unfold dg;rw[hgd,he];simp only[];rw[hy];cases h8:a.tmps[g]? with
 |none=>simp[au]
 |some v=>cases v<;>simp
theorem FQ{ev:bI->ai}{t:j5}{v:ai}:∀ {l:List (j5 × ai)},gi ev l->mQ l t=some v->ev (.tmp t)=v
 |p::l,hb,h=>by
  obtain⟨d,x⟩:=p;rw[wU] at h;split at h
  .rename_i hd;subst hd;cases h;exact hb.1
  exact FQ hb.2 h
theorem aae{es:Es}{a:jY}{ch:List (Nat × Bool)}(hi:Od base n a0 es a)(hc:kj base es ch=true):∀ {x:bI},T_ base es ch x=true->a.eval x=rV base es x
 |.const v,_=>rfl
 |.global g,_=>rfl
 |.func f,_=>rfl
 |.tmp t,h=>by
  unfold T_ at h;unfold rV;simp only[] at h ⊢;cases hs:mQ es t with
  |none=>
   rw[hs] at h;simp only[] at h ⊢;cases hk:mQ base t with
   |none=>rw[hk] at h;cases h
   |some v=>exact hi.bas t v hs hk
  |some e=>
   rw[hs] at h;simp only[] at h ⊢;rw[hi.ent t e hs]
   have:kj base es e.1=true:=by
    unfold subs at h;unfold kj at *;rw[a7] at *;intro p hp;obtain⟨q,hq,h1⟩:=xq.1 (h p hp);rw[aI] at h1;have h2:=hc q hq;rw[iJ h1.1,eq_of_beq h1.2];exact h2
   rw[this];rfl
theorem NJ{es:Es}{d:j5}{e:En}{ch:List (Nat × Bool)}(h:YK d ch=true):kj base ((d,e)::es) ch=kj base es ch:=by
 unfold kj;unfold YK at h;rw[a7] at h;rw[Bool.eq_iff_iff,a7,a7];refine forall_congr' fun p=>forall_congr' fun hp=>?_;have h1:=h p hp;have hne:d≠p.1:=fun e=>by rw[<-e,Nat.beq_refl] at h1;cases h1
 rw[EH,EH,wU,if_neg hne]
theorem Q5{es:Es}{a:jY}{i:Nat}{o:cY}{v:ai}(hi:Od base n a0 es a)(hd:Rx n es (tF P aM base C es i o) o=true)(hv:∀d,o.dst=some d->v=Nk (kj base es (tF P aM base C es i o).1) (tF P aM base C es i o).2.1) :
  Od base n a0 (OZ P aM base C es i o) (a.put o.dst v):=by
 unfold OZ;unfold Rx at hd;cases hdd:o.dst with
 |none=>exact⟨hi.size,hi.defers,hi.ent,hi.bas,hi.keep⟩
 |some d=>
  rw[hdd] at hd;simp only[aI] at hd ⊢;obtain⟨⟨h1,h2⟩,h3⟩:=hd
  have hdn:d<n:=by
   unfold Nat.blt at h1;exact Nat.le_of_ble_eq_true h1
  rw[a7] at h3;refine⟨by rw[Ae,hi.size],by rw[put_defers,hi.defers],fun t e ht=>?_,fun t u ht hb=>?_,fun t ht=>?_⟩
  .rw[wU] at ht;split at ht
   .rename_i hdt;subst hdt;cases ht;rw[put_eq a d v (by rw[hi.size];exact hdn),NJ h2];exact hv d hdd
   rename_i hdt;rw[uT _ _ _ _ (by simpa using hdt),hi.ent t e ht,NJ];exact h3 (t,e) (Ax ht)
  .rw[wU] at ht;split at ht
   .cases ht
   rename_i hdt;rw[uT _ _ _ _ (by simpa using hdt)];exact hi.bas t u ht hb
  rw[wU] at ht;split at ht
  .cases ht
  rename_i hdt;rw[uT _ _ _ _ (by simpa using hdt)];exact hi.keep t ht
theorem Uk.get{G:Nat->iZ Next->ak->ai->Prop}{i:Nat}:∀ {l:List (Nat × ai)} {p:Nat × ai},Uk P aM base C G S i l->p∈l->∀w,S w->kj base (NB P aM base C i p.1) (tF P aM base C (NB P aM base C i p.1) p.1 (opAt aM p.1)).1=true->G p.1 (cC (rV base (NB P aM base C i p.1)) (opAt aM p.1)) w p.2
 |q::l,p,h,hp=>by
  rcases bQ.1 hp with rfl|hp
  .exact h.1
  exact Uk.get h.2 hp
theorem Yj{es:Es}{i:Nat}{o:cY}(Td:∀c a b,o.op≠.pick c a b)(Cb:mQ C.hs i=none):yR P base C es i o=match Jc P base C es i o with|some (.value v,bl)=>(v,bl)|_=>(au,[]):=by
 unfold yR;rw[Cb];cases ho:o.op<;>first|exact absurd ho (Td _ _ _)|rfl
theorem abm{es:Es}{i:Nat}{o:cY}{ch:List (Nat × Bool)}(Td:∀c a b,o.op≠.pick c a b):okO P base C es i o ch=((match vE o.op with | some l=>l.all (T_ base es ch) | none=>false)&&(match mQ C.hs i with | some _=>true | none=>match Jc P base C es i o with | some (.value _,bl)=>(rz C i).isSome||bl.isEmpty | _=>false)):=by
 unfold okO;cases ho:o.op<;>first|exact absurd ho (Td _ _ _)|rfl
theorem aa5{Wp:List Nat->jY->ak->Prop}{Y:mY}{G:Nat->iZ Next->ak->ai->Prop}{T:ak->ak->Prop}(L:xV aM Wp Y)(XZ:∀w w',S w->T w w'->S w')(Tq:∀w,T w w)
  {i:Nat} {o:cY} (ho:aM[i]?=some o) (hn:mQ C.hs i=none->∀s w v,s.run P w=.ok (.value v) w->G i s w v)
  (hY:∀ev w v R,S w->(∀w',S w'->G i (cC ev o) w' v)->(∀w',T w w'->R v w')->Y o ev w R) (hm:oA S C.mem)
  {es:Es} {a:jY} {w:ak} {rest:List Nat} (hi:Od base n a0 es a) (hS:S w) (h1:Wq aM base C es o=true) (h2:∀ch,Tx aM C es o=some ch->okO P base C es i o ch=true) (h3:Rx n es (tF P aM base C es i o) o=true)
  (h4:∀b∈(tF P aM base C es i o).2.2,b=((rz C i).map (·.1)).getD 0) (h5:∀v,mQ C.hs i=some v->∀w,S w->kj base es (tF P aM base C es i o).1=true->G i (cC (rV base es) o) w v)
  (hk:∀a w,S w->Od base n a0 (OZ P aM base C es i o) a->Wp rest a w):Wp (i::rest) a w:=by
 have go:∀ch,Tx aM C es o=some ch->kj base es ch=true->dg o (ku aM a.tmps)=true->Wp (i::rest) a w:=fun ch hgd mN hw=>by
  have vT:=h2 ch hgd;have hse:tF P aM base C es i o=(ch,yR P base C es i o):=by unfold tF;rw[hgd]
  have hput:∀w',T w w'->∀u,u=(yR P base C es i o).1->Wp rest (a.put o.dst u) w':=fun w' ht u hu=>hk _ _ (XZ _ _ hS ht) (Q5 hi h3 fun d _=>by
   rw[hse];show u=Nk (kj base es ch) (yR P base C es i o).1
   rw[mN,hu];rfl)
  have hop:∀ {ch':List (Nat × Bool)} {x:bI},kj base es ch'=true->T_ base es ch' x=true->a.eval x=rV base es x:=fun g1 g2=>aae hi g1 g2
  have fin:(∀w',S w'->G i (cC a.eval o) w' (yR P base C es i o).1)->Wp (i::rest) a w:=fun hg=>
   L.go i rest o a w (fun v w'=>v=(yR P base C es i o).1/\T w w') ho hw (hY _ _ _ _ hS hg fun w' ht=>⟨rfl,ht⟩) fun v w' ⟨e,ht⟩=>hput w' ht v e
  have rest':(∀c a b,o.op≠.pick c a b)->Wp (i::rest) a w:=fun Td=>by
   have h6:(match vE o.op with | some l=>l.all (T_ base es ch) | none=>false)=true/\(match mQ C.hs i with | some _=>true | none=>match Jc P base C es i o with | some (.value _,bl)=>(rz C i).isSome||bl.isEmpty | _=>false)=true:=by
    rw[abm Td,aI] at vT;exact vT
   cases hl:vE o.op with
   |none=>rw[hl] at h6;cases h6.1
   |some l=>
    rw[hl] at h6;have hex:cC a.eval o=cC (rV base es) o:=execOp_congr hl fun x hx=>hop mN (a7.1 h6.1 x hx);cases Cb:mQ C.hs i with
    |some v=>
     have hv:(yR P base C es i o).1=v:=by unfold yR;rw[Cb]
     refine fin fun w' Oq=>?_;rw[hex,hv];exact h5 v Cb w' Oq (by rw[hse];exact mN)
    |none=>
     rw[Cb] at h6;cases hlk:Jc P base C es i o with
     |none=>rw[hlk] at h6;cases h6.2
     |some nb=>
      obtain⟨nx,bl⟩:=nb;rw[hlk] at h6;cases nx<;>try (cases h6.2;done)
      rename_i v;have hv:yR P base C es i o=(v,bl):=by rw[Yj Td Cb,hlk]
      refine fin fun w' Oq=>hn Cb _ _ _ ?_;rw[hv,hex];refine mX hlk fun b Tn=>?_;have h7:=h4 b (by rw[hse,hv];exact Tn);have h8:=h6.2;simp only[] at h8;unfold Xa;cases hmm:rz C i with
      |none=>
       rw[hmm] at h8;cases bl with
       |nil=>cases Tn
       |cons _ _=>cases h8
      |some m=>
       rw[hmm] at h7;have h7:b=m.1:=h7;subst h7;unfold rz at hmm;exact hm.get (List.mem_of_getElem? hmm) w' Oq
  by_cases Hi:∃c a b,o.op=.pick c a b
  case neg=>exact rest' fun c a b h=>Hi ⟨c,a,b,h⟩
  obtain⟨c,x,y,Ca⟩:=Hi;unfold okO at vT;rw[Ca] at vT;simp only[aI] at vT;obtain⟨⟨hnone,abT⟩,tv⟩:=vT;have Cb:mQ C.hs i=none:=by simpa using hnone
  have PI:=hop mN abT;cases KJ:abA C c with
  |some t=>
   rw[KJ] at tv
   have hv:(yR P base C es i o).1=if t then rV base es x else rV base es y:=by
    unfold yR;rw[Cb,Ca];simp only[KJ];cases t<;>rfl
   cases t with
   |true=>
    rw[aI] at tv;refine fin fun w' Oq=>hn Cb _ _ _ ?_;rw[hv,sj Ca (PI.trans (oY.1 tv.1)),if_pos rfl,if_pos rfl,hop mN tv.2]
   |false=>
    rw[aI] at tv;refine fin fun w' Oq=>hn Cb _ _ _ ?_;rw[hv,sj Ca (PI.trans (oY.1 tv.1)),if_neg sM,if_neg sM,hop mN tv.2]
  |none=>
   rw[KJ] at tv;simp only[aI] at tv;obtain⟨⟨⟨⟨g1,g2⟩,g3⟩,g4⟩,g5⟩:=tv
   have hv:(yR P base C es i o).1=bools (rV base es c) (rV base es x) (rV base es y):=by
    unfold yR;rw[Cb,Ca];simp only[KJ]
   have ib:∀ {v:ai},isBool v=true->∃x,v=.bool x:=fun {v} h=>by cases v<;>first|exact⟨_,rfl⟩|cases h
   obtain⟨t,ht⟩:=ib g1;obtain⟨x',hx⟩:=ib g2;obtain⟨y',hy⟩:=ib g3
   have hw2:∀q,t=q->kj base es (QA c q ch)=true:=fun q hq=>by
    unfold QA;cases c<;>simp only[]<;>try exact mN
    unfold kj at mN ⊢;rw[ej,mN,ht,hq];cases q<;>rfl
   refine fin fun w' Oq=>hn Cb _ _ _ ?_;rw[hv,sj Ca (PI.trans ht),ht,hx,hy];cases t with
   |true=>rw[if_pos rfl,hop (hw2 true rfl) g4,hx];rfl
   |false=>rw[if_neg sM,hop (hw2 false rfl) g5,hy];rfl
 cases hgd:o.guard with
 |none=>exact go [] (by unfold Tx;rw[hgd]) rfl (by simp[dg,hgd])
 |some jb=>
  obtain⟨j,b⟩:=jb;unfold Wq at h1;rw[hgd] at h1;simp only[] at h1;cases Om:eC aM j with
  |none=>rw[Om] at h1;cases h1
  |some g=>
   rw[Om] at h1;simp only[aI] at h1;obtain⟨hkn,hlt⟩:=h1
   have hval:a.eval (.tmp g)=Nk (kj base es (TQ es g)) (rV base es (.tmp g)):=by
    unfold TQ;rw[EH];cases rU:mQ es g with
    |some e=>exact hi.ent g e rU
    |none=>
     rw[rU] at hkn;cases hb:mQ base g with
     |none=>rw[hb] at hkn;cases hkn
     |some v=>rw[hi.bas g v rU hb];rfl
   have VF:=LM (a:=a) hgd Om
   have skip:tF P aM base C es i o=([],au,[])\/kj base es (tF P aM base C es i o).1=false->¬a.eval (.tmp g)=.bool b->Wp (i::rest) a w:=fun hs hne=>
    L.no i rest o a w ho (fun h=>hne (VF.1 h)) (hk _ _ hS (Q5 hi h3 fun d _=>by
     rcases hs with hs|hs
     .rw[hs];rfl
     rw[hs];rfl))
   cases rU:mQ C.lits g with
   |some b'=>
    rw[rU] at hlt;rw[oY.1 hlt] at hval
    by_cases qG:b'=b
    .subst qG;have xX:Tx aM C es o=some (TQ es g):=by unfold Tx;rw[hgd];simp only[Om,rU];simp
     cases hcc:kj base es (TQ es g) with
     |true=>rw[hcc] at hval;exact go _ xX hcc (VF.2 hval)
     |false=>rw[hcc] at hval;exact skip (.inr (by unfold tF;rw[xX];exact hcc)) (by rw[hval];simp[Nk,au])
    .have xX:Tx aM C es o=none:=by
      unfold Tx;rw[hgd];simp only[Om,rU];have:(b'==b)=false:=beq_false_of_ne qG;rw[this];rfl
     refine skip (.inl (by unfold tF;rw[xX])) ?_;rw[hval];cases kj base es (TQ es g) with
     |true=>simp[Nk];exact qG
     |false=>simp[Nk,au]
   |none=>
    have xX:Tx aM C es o=some ((g,b)::TQ es g):=by unfold Tx;rw[hgd];simp only[Om,rU]
    have hca:kj base es ((g,b)::TQ es g)=(Pt (rV base es (.tmp g)) b&&kj base es (TQ es g)):=by unfold kj;rw[ej]
    cases hcc:kj base es (TQ es g) with
    |false=>rw[hcc] at hval;exact skip (.inr (by unfold tF;rw[xX];show kj base es ((g,b)::TQ es g)=false;rw[hca,hcc,Bool.and_false])) (by rw[hval];simp[Nk,au])
    |true=>
     rw[hcc] at hval;have hval:a.eval (.tmp g)=rV base es (.tmp g):=hval;cases hib:Pt (rV base es (.tmp g)) b with
     |true=>exact go _ xX (by rw[hca,hcc,hib];rfl) (VF.2 (hval.trans (oY.1 hib)))
     |false=>
      refine skip (.inr (by unfold tF;rw[xX];show kj base es ((g,b)::TQ es g)=false;rw[hca,hib];rfl)) fun h=>?_;have h9:=oY.2 (hval.symm.trans h);rw[hib] at h9;cases h9
theorem QE{Wp:List Nat->jY->ak->Prop}{Y:mY}{G:Nat->iZ Next->ak->ai->Prop}{T:ak->ak->Prop}(L:xV aM Wp Y)(XZ:∀w w',S w->T w w'->S w')(Tq:∀w,T w w)
  (hn:∀i,mQ C.hs i=none->∀s w v,s.run P w=.ok (.value v) w->G i s w v)
  (hY:∀i o ev w v R,S w->(∀w',S w'->G i (cC ev o) w' v)->(∀w',T w w'->R v w')->Y o ev w R) (hm:oA S C.mem) {rest:List Nat} :
  ∀(l:List cY) (i:Nat) (es:Es) (a:jY) (w:ak),(∀j o,l[j]?=some o->aM[i+j]?=some o)->ZC P aM base C n i l es=true->YR P aM base C i l es=YQ P aM base C i l es->
  (∀j v,mQ C.hs (i+j)=some v->j<l.length->∀w,S w->kj base (Hv P aM base C i (l.take j) es) (tF P aM base C (Hv P aM base C i (l.take j) es) (i+j) (opAt aM (i+j))).1=true->G (i+j) (cC (rV base (Hv P aM base C i (l.take j) es)) (opAt aM (i+j))) w v)->
  Od base n a0 es a->S w->(∀a w,S w->Od base n a0 (Hv P aM base C i l es) a->Wp rest a w)->Wp (bN i l.length++rest) a w
 |[],i,es,a,w,_,_,_,_,hi,hS,hk=>hk a w hS hi
 |o::l,i,es,a,w,hat,hck,Te,hh,hi,hS,hk=>by
  have ho:aM[i]?=some o:=hat 0 o rfl;have hoa:opAt aM i=o:=by unfold opAt;simp[List.getD,ho]
  unfold ZC at hck;rw[aI,aI,aI] at hck;unfold YR YQ at Te;rw[BD] at Te;show Wp (i::(bN (i+1) l.length++rest)) a w;refine aa5 L XZ Tq ho (hn i) (hY i o) hm hi hS hck.1.1.1 (fun ch hg=>by have:=hck.1.1.2;rw[hg] at this;exact this) hck.1.2 (fun b hb=>?_) (fun v hv w' Oq hc=>?_) fun a' w' Oq hi'=>?_
  .rw[Te.1] at hb;obtain⟨_,_,rfl⟩:=dW.1 hb;rfl
  .have:=hh 0 v hv sM w' Oq;rw[Nat.add_zero,hoa] at this;exact this hc
  refine QE L XZ Tq hn hY hm l (i+1) _ a' w' (fun j o' hj=>?_) hck.2 Te.2 (fun j v hv hj w2 Tr hc=>?_) hi' Oq hk
  .have:=hat (j+1) o' (by simpa using hj);rwa [show i+1+j=i+(j+1) by omega]
  have:=hh (j+1) v (by rwa [show i+(j+1)=i+1+j by omega]) (by simpa using hj) w2 Tr;rw[show i+(j+1)=i+1+j by omega] at this;exact this hc
theorem J_{Wp:List Nat->jY->ak->Prop}{Y:mY}{G:Nat->iZ Next->ak->ai->Prop}{T:ak->ak->Prop}(L:xV aM Wp Y)(XZ:∀w w',S w->T w w'->S w')(Tq:∀w,T w w)
  (hn:∀i,mQ C.hs i=none->∀s w v,s.run P w=.ok (.value v) w->G i s w v)
  (hY:∀i o ev w v R,S w->(∀w',S w'->G i (cC ev o) w' v)->(∀w',T w w'->R v w')->Y o ev w R)
  {dQ:List (j5 × ai)} {i k m:Nat} {outs:List (j5 × ai)} {W:ak} (hF:iw n a0 base) (hF2:iw n a0 dQ) (hr:wO P aM base C n dQ i k outs=wN P aM base C i k outs) (hS:S W) (hm:oA S C.mem) (hh:Uk P aM base C G S i C.hs)
  (hy:uK (fun l=>∀a w,S w->iw n a l->Wp (bN (i+k) m) a w) outs dQ):Wp (bN i (k+m)) a0 W:=by
 unfold wO wN at hr;rw[iA,iA,aI,aI] at hr;obtain⟨⟨⟨hsz,hb2⟩,hck⟩,Te,hout⟩:=hr;have hsz:=Nat.le_of_ble_eq_true hsz;have hlen:(AZ aM i k).length=k:=by unfold AZ;simp;omega
 have hcut:∀j o,(AZ aM i k)[j]?=some o->aM[i+j]?=some o:=fun j o h=>by
  unfold AZ at h;rw[List.getElem?_take] at h;split at h
  .rw[List.getElem?_drop] at h;simpa using h
  cases h
 have key:=QE (rest:=bN (i+k) m) (a0:=a0) L XZ Tq hn hY hm (AZ aM i k) i [] a0 W hcut hck Te (fun j v hv hj w hSw=>?_) ⟨hF.size,hF.defers,(fun t e h=>by cases h),(fun t v _ h=>FQ hF.base h),fun _ _=>rfl⟩ hS fun a w hSw hi=>?_
 .rw[hlen] at key;rwa [List.range'_append_1] at key
 .have:=hh.get (Ax hv) w hSw
  have e:NB P aM base C i (i+j)=Hv P aM base C i ((AZ aM i k).take j) []:=by
   unfold NB AZ;rw[List.take_take,show i+j-i=j by omega,Nat.min_eq_left (by rw[hlen] at hj;omega)]
  simp only[e] at this;exact this
 .refine hy.get a w hSw (iw.rev ?_)
  have VX:iw n a dQ:=by
   refine⟨hi.size,hi.defers,hF2.base.congr fun p hp=>hi.keep _ ?_⟩;have:=a7.1 hb2 p hp;simpa using this
  refine⟨VX.size,VX.defers,?_⟩;clear hy
  induction outs with
  |nil=>exact VX.base
  |cons p l ih=>
   rw[cV,cV,BD] at hout;refine⟨?_,ih hout.2⟩;have h1:=hout.1;unfold aeu at h1;cases he:mQ (Hv P aM base C i (AZ aM i k) []) p.1 with
   |none=>rw[he] at h1;cases h1
   |some e=>
    rw[he] at h1;simp only[] at h1;cases hc:e.1 with
    |cons _ _=>rw[hc] at h1;cases h1
    |nil=>
     rw[hc] at h1;have:=hi.ent p.1 e he;rw[hc] at this;rw[this,<-aT h1];rfl
variable{Q:Exit->jY->ak->Prop}
theorem MF:xV aM (wpOps P aM Q) (Yields P):=
 ⟨fun i rest o a w R ho hw hy hk=>by
  rw[wpOps_cons];exact wpOp_step ho fun K' hK=>by rw[if_pos hw];exact hy.wp fun v w' hv=>hK _ _ (hk v w' hv),
 fun i rest o a w ho hw hk=>by
  rw[wpOps_cons]
  exact wpOp_step ho fun K' hK=>by rw[if_neg hw];exact hK _ _ hk⟩
theorem jZ(i k m:Nat)(C:Cf)(outs:List (j5 × ai)){dQ:List (j5 × ai)}{W:ak}(hF:iw n a0 base)(hF2:iw n a0 dQ)(hm:oA (fun w=>Bw W w) C.mem)(hh:Uk P aM base C (fun _=>mP P) (fun w=>Bw W w) i C.hs)(hy:uK (fun l=>∀a w,Bw W w->iw n a l->wpOps P aM Q (bN (i+k) m) a w) outs dQ)(hr:wO P aM base C n dQ i k outs=wN P aM base C i k outs:=by kernel_rfl):wpOps P aM Q (bN i (k+m)) a0 W:=
 J_ (T:=fun w w'=>Bw w w') MF (fun _ _ h hb=>h.trans (hb.mono h.size)) (fun w=>ay _ _) (fun i _ s w v h=>gr h) (fun i o ev w v R hS hg hR=>(hg w hS).yields hR) hF hF2 hr (ay _ _) hm hh hy
section
variable{id:Nat}{y:Code}{W:ak}{dQ:List (j5 × ai)}
theorem vI{N:Nat}(hN:aM.size=N)(h:wpOps P aM (Exit.then (fun a w=>y.wp P Q a w) Q) (bN 0 N) a0 W):(Code.seq (.region id aM false) y).wp P Q a0 W:=
 wp_seq (wp_region (by rw[nv,hN];exact h))
theorem yI{N:Nat}(hN:aM.size=N)(h:wpOps P aM Q (bN 0 N) a0 W):(CV id aM false).wp P Q a0 W:=
 wp_region (by rw[nv,hN];exact h)
theorem xd{i:Nat}(h:y.wp P Q a0 W):wpOps P aM (Exit.then (fun a w=>y.wp P Q a w) Q) (bN i 0) a0 W:=h
theorem AQ{i:Nat}(h:Q .normal a0 W):wpOps P aM Q (bN i 0) a0 W:=h
theorem EN(C:Cf)(outs:List (j5 × ai))(hF:iw n a0 base)(hF2:iw n a0 dQ)(hm:oA (fun w=>Bw W w) C.mem)(hh:Uk P aM base C (fun _=>mP P) (fun w=>Bw W w) 0 C.hs)(hy:uK (fun l=>∀a w,Bw W w->iw n a l->y.wp P Q a w) outs dQ)(hr:wO P aM base C n dQ 0 aM.size outs=wN P aM base C 0 aM.size outs:=by kernel_rfl):(Code.seq (.region id aM false) y).wp P Q a0 W:=
 vI rfl (jZ (hr:=hr) 0 aM.size 0 C outs hF hF2 hm hh (by
  rw[dz]
  exact hy))
theorem fe(outs:List (j5 × ai))(hF:iw n a0 base)(hy:uK (fun l=>∀a w,gu W.heap.size W w->iw n a l->y.wp P Q a w) outs base)(hr:wO P aM base ⟨[],[],[],[]⟩ n base 0 aM.size outs=wN P aM base ⟨[],[],[],[]⟩ 0 aM.size outs:=by kernel_rfl):(Code.seq (.region id aM false) y).wp P Q a0 W:=EN ⟨[],[],[],[]⟩ outs hF hF trivial trivial hy hr
theorem lZ(i k m:Nat)(outs:List (j5 × ai)){W:ak}(hF:iw n a0 base)(hy:uK (fun l=>∀a w,gu W.heap.size W w->iw n a l->wpOps P aM Q (bN (i+k) m) a w) outs base)(hr:wO P aM base ⟨[],[],[],[]⟩ n base i k outs=wN P aM base ⟨[],[],[],[]⟩ i k outs:=by kernel_rfl):wpOps P aM Q (bN i (k+m)) a0 W:=jZ i k m ⟨[],[],[],[]⟩ outs hF hF trivial trivial hy hr
theorem Ou(C:Cf)(outs:List (j5 × ai))(hF:iw n a0 base)(hF2:iw n a0 dQ)(hm:oA (fun w=>Bw W w) C.mem)(hh:Uk P aM base C (fun _=>mP P) (fun w=>Bw W w) 0 C.hs)(hy:uK (fun l=>∀a w,Bw W w->iw n a l->Q .normal a w) outs dQ)(hr:wO P aM base C n dQ 0 aM.size outs=wN P aM base C 0 aM.size outs:=by kernel_rfl):(CV id aM false).wp P Q a0 W:=
 yI rfl (jZ (hr:=hr) 0 aM.size 0 C outs hF hF2 hm hh (by
  rw[dz]
  exact hy))
theorem uK.mono{K K':List (j5 × ai)->Prop}(h:∀l,K l->K' l):∀ {r l:List (j5 × ai)},uK K r l->uK K' r l
 |[],l,hk=>h l hk
 |p::r,l,hk=>uK.mono h (r:=r) hk
end
def BI(P:aK)(aM:Array cY)(base:List (j5 × ai))(C:Cf)(n:Nat)(dQ:List (j5 × ai))(i:Nat)(d:Option j5):Bool:=
 Nat.blt i aM.size&&Wq aM base C [] (opAt aM i)&&(match Tx aM C [] (opAt aM i) with|some []=>true|_=>false)&&(match vE (opAt aM i).op with|some l=>l.all (T_ base [] [])|none=>false) &&
  (match (opAt aM i).dst,d with|some x,some y=>Hm x y&&Nat.blt y n&&dQ.all fun p=>!Nat.beq p.1 y|none,none=>true|_,_=>false)
def ic:Option j5->ai->List (j5 × ai)->List (j5 × ai)
 |some d,v,l=>(d,v)::l
 |none,_,l=>l
theorem JR{Wp:List Nat->jY->ak->Prop}{Y:mY}(L:xV aM Wp Y){dQ:List (j5 × ai)}{i m:Nat}{d:Option j5}{W:ak}{R:ai->ak->Prop}(hF:iw n a0 base)(hF2:iw n a0 dQ)(hc:BI P aM base C n dQ i d=true)
  (hY:∀ev,cC ev (opAt aM i)=cC (rV base []) (opAt aM i)->Y (opAt aM i) ev W R) (hk:∀v w,R v w->∀a,iw n a (ic d v dQ)->Wp (bN (i+1) m) a w):Wp (bN i (m+1)) a0 W:=by
 unfold BI at hc;simp only[aI] at hc;obtain⟨⟨⟨⟨h1,h2⟩,h3⟩,h4⟩,h5⟩:=hc;have hi:i<aM.size:=by unfold Nat.blt at h1;exact Nat.le_of_ble_eq_true h1
 have ho:aM[i]?=some (opAt aM i):=by unfold opAt;simp[List.getD,hi]
 generalize opAt aM i=o at *;have hinv:Od base n a0 [] a0:=⟨hF.size,hF.defers,(fun t e h=>by cases h),(fun t v _ h=>FQ hF.base h),fun _ _=>rfl⟩
 have hex:cC a0.eval o=cC (rV base []) o:=by
  cases hl:vE o.op with
  |none=>rw[hl] at h4;cases h4
  |some l=>
   rw[hl] at h4;exact execOp_congr hl fun x hx=>aae hinv (ch:=[]) rfl (a7.1 h4 x hx)
 have hw:dg o (ku aM a0.tmps)=true:=by
  unfold dg;cases hgd:o.guard with
  |none=>rfl
  |some jb=>
   obtain⟨j,b⟩:=jb;unfold Wq at h2;unfold Tx at h3;rw[hgd] at h2 h3;simp only[] at h2 h3;cases Om:eC aM j with
   |none=>rw[Om] at h2;cases h2
   |some g=>
    rw[Om] at h2 h3;simp only[aI] at h2 h3
    have hval:a0.eval (.tmp g)=rV base [] (.tmp g):=by
     rw[EH];show _=(mQ base g).getD au;cases hb:mQ base g with
     |none=>have:=h2.1;rw[hb] at this;cases this
     |some v=>rw[hinv.bas g v rfl hb];rfl
    cases rU:mQ C.lits g with
    |none=>rw[rU] at h3;cases h3
    |some b'=>
     rw[rU] at h2 h3
     by_cases qG:b'=b
     .subst qG;rw[oY.1 h2.2] at hval;have h9:=(LM (a:=a0) hgd Om).2 hval;unfold dg at h9;rw[hgd] at h9;exact h9
     have:(b'==b)=false:=beq_false_of_ne qG;simp only[this] at h3;cases h3
 rw[List.range'_succ];refine L.go i _ o a0 W R ho hw (hY _ hex) fun v w hv=>hk v w hv _ ?_;cases hdd:o.dst with
 |none=>
  rw[hdd] at h5;cases d with
  |some _=>cases h5
  |none=>exact hF2
 |some x=>
  rw[hdd] at h5;cases d with
  |none=>cases h5
  |some y=>
   simp only[aI] at h5;have Y0:=iJ h5.1.1;subst Y0;have hlt:x<n:=by have:=h5.1.2;unfold Nat.blt at this;exact Nat.le_of_ble_eq_true this
   exact(hF2.put x v h5.2).cons (put_eq a0 x v (by rw[hF.size];exact hlt))
section
variable{dQ:List (j5 × ai)}{i m:Nat}{W:ak}
theorem Yields.ex{o:cY}{ev Gh:bI->ai}{w:ak}{R:ai->ak->Prop}(he:cC ev o=cC Gh o)(h:Yields P o Gh w R):Yields P o ev w R:=by
 unfold Yields at *;rw[he];exact h
theorem Pa(C:Cf)(d:Option j5){R:ai->ak->Prop}(hF:iw n a0 base)(hF2:iw n a0 dQ)(hc:BI P aM base C n dQ i d=true)(hY:Yields P (opAt aM i) (rV base []) W R)
  (hk:∀v w,R v w->∀a,iw n a (ic d v dQ)->wpOps P aM Q (bN (i+1) m) a w):wpOps P aM Q (bN i (m+1)) a0 W:=
 JR MF hF hF2 hc (fun ev he=>hY.ex he) hk
theorem Xj(C:Cf)(d:Option j5){f:FuncId}{args:Array ai}{Φ:Ending->ak->Prop}(hF:iw n a0 base)(hF2:iw n a0 dQ)(hc:bm P f args W Φ)(hk:∀e w,Φ e w->∃v,e=.returned v/\∀a,iw n a (ic d v dQ)->wpOps P aM Q (bN (i+1) m) a w)(he:(BI P aM base C n dQ i d,look P #[] (cC (rV base []) (opAt aM i)))=(true,some (.enter f args,[])):=by kernel_rfl):wpOps P aM Q (bN i (m+1)) a0 W:=by
 rw[iA] at he;exact Pa C d (R:=fun v w=>∀a,iw n a (ic d v dQ)->wpOps P aM Q (bN (i+1) m) a w) hF hF2 he.1 (.call (mX he.2 sM) hc fun e w h=>hk e w h) fun v w h=>h
def Vf(P:aK)(r:Nat):iZ Next->Option (Array ai × aV × Nat × Nat × Option (Next × List Nat))
 |.new o k=>match o with
  |.cells cs t fr=>some (cs,t,fr.1,fr.2,look P #[] (k r))
  |_=>none
 |.program k=>Vf P r (k P)
 |_=>none
theorem QX{P:aK}{s:iZ Next}{cs:Array ai}{t:aV}{v:ai}{w:ak}(h:Vf P w.heap.size s=some (cs,t,0,0,some (.value v,[]))):s.run P w=.ok (.value v) (w.alloc (.cells cs t)):=by
 induction s with
 |new o k _=>
  unfold Vf at h;cases o with
  |cells cs' t' fr=>
   obtain⟨f1,f2⟩:=fr;simp only[ia,iA] at h;obtain⟨rfl,rfl,rfl,rfl,h5⟩:=h
   conv=>lhs;unfold Sem.run
   exact mX h5 sM
  |_=>cases h
 |program k ih=>exact ih P h
 |_=>cases h
theorem nR(C:Cf)(d:Option j5)(vf:Nat->ai)(cs:Array ai)(t:aV)(hF:iw n a0 base)(hF2:iw n a0 dQ)(hk:∀B w a,W.heap.size<=B->Bw W w->w.heap[B]?=some (.cells cs t (0,0))->iw n a (ic d (vf B) dQ)->wpOps P aM Q (bN (i+1) m) a w)(hc:BI P aM base C n dQ i d=true:=by kernel_rfl)(he:∀r,Vf P r (cC (rV base []) (opAt aM i))=some (cs,t,0,0,some (.value (vf r),[])):=by intro r;kernel_rfl):wpOps P aM Q (bN i (m+1)) a0 W:=
 Pa C d (R:=fun v w=>∃B,v=vf B/\W.heap.size<=B/\Bw W w/\w.heap[B]?=some (.cells cs t (0,0))) hF hF2 hc (.value (QX (he _)) ⟨_,rfl,aJ _,dF,aw _ _⟩)
  fun v w ⟨B,e,h1,h2,h3⟩ a hl=>hk B w a h1 h2 h3 (e▸hl)
def stores(P:aK):iZ Next->Option (List (Nat × Nat × ai))
 |.pure .skip=>some []
 |.program k=>stores P (k P)
 |.store _ a v k=>match a.spot,v with
  |some _,_=>none
  |_,.agg _=>none
  |_,.tuple _=>none
  |none,v=>match stores P k with
   |some l=>some ((a.block,a.off,v)::l)
   |none=>none
 |_=>none
def BM(cs:Array ai):List (Nat × Nat × ai)->Array ai
 |[]=>cs
 |p::l=>BM (cs.setIfInBounds p.2.1 p.2.2) l
structure Uo(B:Nat)(w w':ak):Prop where
 os:w'.os=w.os
 tape:w'.tape=w.tape
 output:w'.output=w.output
 size:w'.heap.size=w.heap.size
 block:∀k,k≠B->w'.heap[k]?=w.heap[k]?
theorem Uo.below{B m:Nat}{V w w':ak}(h:Uo B w w')(ho:gu m V w)(hB:m<=B):gu m V w':=⟨h.os.trans ho.os,h.tape.trans ho.tape,h.output.trans ho.output,by rw[h.size];exact ho.size,fun k hk=>(h.block k oM).trans (ho.block k hk)⟩
theorem OB{P:aK}{B:Nat}{t:aV}{s:iZ Next}:∀ {l:List (Nat × Nat × ai)} {cs:Array ai} {w:ak},stores P s=some l->(∀p∈l,p.1=B/\p.2.1<cs.size)->w.heap[B]?=some (.cells cs t (0,0))->
  ∃w',s.run P w=.ok .skip w'/\w'.heap[B]?=some (.cells (BM cs l) t (0,0))/\Uo B w w':=by
 induction s with
 |pure x=>intro l cs w h _ hB;cases x<;>cases h;exact⟨w,rfl,hB,rfl,rfl,rfl,rfl,fun _ _=>rfl⟩
 |program k ih=>intro l cs w h hl hB;exact ih P h hl hB
 |store m a v k ih=>
  intro l cs w h hl hB;unfold stores at h
  have main:∀v:ai,(∀x,v≠.agg x)->(∀x,v≠.tuple x)->a.spot=none->(match stores P k with|some l=>some ((a.block,a.off,v)::l)|none=>none)=some l->∃w',(Sem.store m a v k).run P w=.ok .skip w'/\w'.heap[B]?=some (.cells (BM cs l) t (0,0))/\Uo B w w':=fun v n1 n2 hs h=>by
   cases hk:stores P k with
   |none=>rw[hk] at h;cases h
   |some l'=>
    rw[hk] at h;cases h;obtain⟨h1,h2⟩:=hl _ (dJ ..);simp only[] at h1 h2;obtain⟨b,off,sp⟩:=a;simp only[] at h1 h2 hs;subst h1 hs;have hc:w.cell? ⟨b,off,none⟩=some cs[off]:=aF hB off _ (aN h2);obtain⟨w',g1,g2,g3⟩:=ih (cs:=cs.setIfInBounds off v) (w:=w.setCell ⟨b,off,none⟩ v) hk (fun p hp=>by simpa using hl p (bW _ hp)) (dn v hB);refine⟨w',?_,g2,g3.os,g3.tape,g3.output,by rw[g3.size];simp,fun k hk=>(g3.block k hk).trans (aW w ⟨b,off,none⟩ v k hk)⟩;rw[<-g1];have hf:w.frozen? ⟨b,off,none⟩=false:=dm hB off;cases v<;>first|exact absurd rfl (n1 _)|exact absurd rfl (n2 _)|(conv=>lhs;unfold Sem.run;simp only[hc,hf,bF,if_false])
  cases hs:a.spot with
  |some _=>rw[hs] at h;cases h
  |none=>
   rw[hs] at h;cases v<;>first|(cases h;done)|exact main _ sM sM hs h
 |_=>intro l cs w h;cases h
theorem aac(C:Cf){B:Nat}(cs cs':Array ai){t:aV}(hB:W.heap[B]?=some (.cells cs t (0,0)))(l:List Nat)
  (he:(BI P aM base C n dQ i none,(stores P (cC (rV base []) (opAt aM i))).map fun q=>(q.map (·.1),(q.all fun p=>Nat.blt p.2.1 cs.size),BM cs q))=(true,some (l.map fun _=>B,true,cs'))) :
  BI P aM base C n dQ i none=true/\∀w,w.heap[B]?=some (.cells cs t (0,0))->∃w',(cC (rV base []) (opAt aM i)).run P w=.ok .skip w'/\w'.heap[B]?=some (.cells cs' t (0,0))/\Uo B w w':=by
 rw[iA] at he;refine⟨he.1,fun w hw=>?_⟩;cases hs:stores P (cC (rV base []) (opAt aM i)) with
 |none=>rw[hs] at he;cases he.2
 |some q=>
  rw[hs] at he;have h2:=he.2;simp only[Option.map_some,ia,iA] at h2;obtain⟨h3,h4,h5⟩:=h2;subst h5;refine OB hs (fun p hp=>⟨?_,?_⟩) hw
  .have:p.1∈q.map (·.1):=dW.2 ⟨p,hp,rfl⟩;rw[h3] at this;obtain⟨_,_,e⟩:=dW.1 this;exact e.symm
  have:=a7.1 h4 p hp;unfold Nat.blt at this;exact Nat.le_of_ble_eq_true this
theorem wP(C:Cf){B:Nat}(cs cs':Array ai){t:aV}(l:List Nat)(hF:iw n a0 base)(hF2:iw n a0 dQ)(hB:W.heap[B]?=some (.cells cs t (0,0)))(hk:∀w a,Uo B W w->w.heap[B]?=some (.cells cs' t (0,0))->iw n a dQ->wpOps P aM Q (bN (i+1) m) a w)(he:(BI P aM base C n dQ i none,(stores P (cC (rV base []) (opAt aM i))).map fun q=>(q.map (·.1),(q.all fun p=>Nat.blt p.2.1 cs.size),BM cs q))=(true,some (l.map fun _=>B,true,cs')):=by kernel_rfl):wpOps P aM Q (bN i (m+1)) a0 W:=by
 obtain⟨h1,h2⟩:=aac C cs cs' hB l he;obtain⟨w',g1,g2,g3⟩:=h2 W hB;exact Pa C none (R:=fun v w=>Uo B W w/\w.heap[B]?=some (.cells cs' t (0,0))) hF hF2 h1 (.skip g1 ⟨g3,g2⟩) fun v w h a hl=>hk w a h.1 h.2 hl
end
end
end Go.Lag
namespace Go.Proofs.YtffladgmkiimjaaGreatDoor
open Go.RowKit Go.Lag
def PX(b:BB)(p1 p2 p3:Option dc)(n1 c1 n2 c2 n3 c3:Nat)(hbig:20<n1\/20<n2\/20<n3)(w:ak):bm aq 18 #[aO (b.sl p1 n1 c1 p2 n2 c2 p3 n3 c3)] w (Rt w (aH true)):=by
 refine nY Tryz.func18 rfl rfl [(0,aO (b.sl p1 n1 c1 p2 n2 c2 p3 n3 c3))] ⟨jB rfl,trivial⟩ fun a W hF hw=>?_;refine vI (N:=2) rfl ?_;refine nR ⟨[],[],[],[]⟩ (some 1) (fun B=>pv B 0) (b.sl p1 n1 c1 p2 n2 c2 p3 n3 c3) 28 hF hF ?_;intro B1 W a G1 ho K1 hF;have akf:=aG hw.size G1;replace hw:=hw.tr ho;rename ak=>W1;have h1:=ay W1.heap.size W1;refine lZ 1 1 0 [(2,aH false)] hF ?_;intro a W ho hF;replace h1:=h1.tr ho;refine xd ?_;refine wp_seq ?_;refine EN ⟨[],[],[(B1,(b.sl p1 n1 c1 p2 n2 c2 p3 n3 c3))],[]⟩ [(19,aH (((decide ((n1:Int)>20))||(decide ((n2:Int)>20)))||(decide ((n3:Int)>20))))] hF hF ⟨fun w1 hS=>⟨_,_,aA K1 (h1.tr hS)⟩,trivial⟩ trivial ?_;intro a W ho hF;replace h1:=h1.tr ho;refine wp_cond_split (t:=(((decide ((n1:Int)>20))||(decide ((n2:Int)>20)))||(decide ((n3:Int)>20)))) (hF.g 0 rfl) (fun F4=>?_) (fun F4=>?_)
 .replace hF:=hF.tl;replace hF:=hF.tl;refine fe [(2,aH true)] hF ?_;intro a W ho hF;replace h1:=h1.tr ho;refine wp_ret ?_;exact bf (cg rfl _ _ _) hF.defers ⟨congrArg bq (hF.g 0 rfl),(hw.tr h1)⟩
 replace hF:=hF.tl;exfalso;simp at F4;omega
def Wx(b:BB)(p1 p2 p3:Option dc)(n1 c1 n2 c2 n3 c3:Nat)(hbig:20<n1\/20<n2\/20<n3)(w:ak):bm aq 29 #[aO (b.sl p1 n1 c1 p2 n2 c2 p3 n3 c3)] w (Rt w (aH false)):=by
 refine nY Tryz.func29 rfl rfl [(0,aO (b.sl p1 n1 c1 p2 n2 c2 p3 n3 c3))] ⟨jB rfl,trivial⟩ fun a W hF hw=>?_;refine vI (N:=2) rfl ?_;refine nR ⟨[],[],[],[]⟩ (some 1) (fun B=>pv B 0) (b.sl p1 n1 c1 p2 n2 c2 p3 n3 c3) 28 hF hF ?_;intro B1 W a G1 ho K1 hF;have akf:=aG hw.size G1;replace hw:=hw.tr ho;rename ak=>W1;have h1:=ay W1.heap.size W1;refine lZ 1 1 0 [(2,aH false)] hF ?_;intro a W ho hF;replace h1:=h1.tr ho;refine xd ?_;replace hF:=hF.tl;refine EN ⟨[(6,false)],[(1,aH true)],[(B1,(b.sl p1 n1 c1 p2 n2 c2 p3 n3 c3))],[]⟩ [(2,aH false)] hF hF ⟨fun w1 hS=>⟨_,_,aA K1 (h1.tr hS)⟩,trivial⟩ ⟨fun w1 hS _=>gc (PX b p1 p2 p3 n1 c1 n2 c2 n3 c3 hbig w1),trivial⟩ ?_;intro a W ho hF;replace h1:=h1.tr ho;refine wp_ret ?_;exact bf (cg rfl _ _ _) hF.defers ⟨congrArg bq (hF.g 0 rfl),(hw.tr h1)⟩
end Go.Proofs.YtffladgmkiimjaaGreatDoor
