/- A REGION RECKONED: what its operations give is computed by the kernel  .. -/
import Derived.Test.YtffladgmkiimjaaGreatDoorU00
import Derived.Deep.Slices
import Derived.RangeFuncNested
import Derived.RangeFuncBound
import Derived.Shelf.RegionOpen
import Derived.LoopNIn
import Derived.LoopIn
import Derived.Maps.OwnIn
set_option linter.all false
set_option maxHeartbeats 0
set_option maxRecDepth 1000000
open Array renaming getElem_modify -> Ck,getElem?_eq_getElem -> aQ,getD_eq_getD_getElem? -> a_,getElem?_eq_some_iff -> ah,getElem?_eq_none -> fS,replicate_zero -> ki,replicate_succ -> kj,toList_map -> wQ
open Bool renaming and_eq_true -> aJ,false_eq_true -> bG
open Go renaming resolve -> B6,TypeId -> a7,Program -> aN,Value -> aj,World -> ak,undef -> aw,Operand -> bI,execOp -> bY,results_tmp -> bZ,bodyPost_ret -> bj,Calls -> bm,Oper -> cO,Addr -> cX,Sem -> iT,Act -> j6,yielded -> j8,Tmp -> jR,bytes -> td
open Go.Builtin renaming zeroCells -> f_
open Go.Code renaming region -> Ch
open Go.Ending renaming returned -> aY,returned -> bA
open Go.IntKind renaming i64 -> af
open Go.Lib renaming hid -> ai
open Go.Obj renaming cells -> au
open Go.Proofs.Tryz renaming prog -> aq,underlying28 -> cM,underlying3 -> ep,underlying122 -> jl
open Go.Region renaming wanted -> cU,binds -> fR
open Go.RowKit renaming Below -> fV
open Go.RowKit.Below renaming refl -> aB,heap_alloc -> aZ,heap_setCell -> bu
open Go.Value renaming int -> aD,bool -> aI,agg -> aR,slice -> ae,int -> ag,oneCell' -> cD,pointer -> eX,ownBlock -> jy
open Go.World renaming alloc_heap_new -> az,putObj_heap_other -> dL,cell? -> dP,size_alloc -> dY,cell?_alloc_lt -> eD,setCell -> kz
open List renaming map_congr_left -> Gy,any_eq_true -> H4,eq_nil_of_length_eq_zero -> a8,range -> aS,all_eq_true -> aX,mem_append -> bB,range' -> bN,mem_cons_of_mem -> bT,mem_range -> bV,map_cons -> cV,mem_cons -> cj,mem_cons_self -> dF,all_cons -> dX,take_of_length_le -> di,mem_map -> dn,mem_of_mem_take -> eU,length_cons -> fh,cons_append -> gY,append_toArray -> iH,size_toArray -> jM,push_toArray -> jN,nil_append -> kC,range_eq_range' -> ng,length_nil -> oO,getElem?_eq_some_iff -> pG,length_append -> qj
open List.cons renaming injEq -> A2
open Nat renaming reduceSub -> DI,reduceAdd -> DJ,beq -> Gx,le_trans -> aF,le_refl -> aO,lt_of_lt_of_le -> bw,zero_add -> dh,eq_of_beq_eq_true -> iC
open Option.some renaming inj -> bp,injEq -> ia
open Or renaming inl -> cJ
open Prod.mk renaming injEq -> iq
namespace Go.Lag
open Go Go.RowKit
def look(P:aN)(cs:Array aj){α:Type}:iT α->Option (α × List Nat)
 |.pure a=>some (a,[])
 |.program k=>look P cs (k P)
 |.load _ a k=>match a.spot,cs[a.off]? with
  |none,some v=>match look P cs (k v) with
   |some (x,l)=>some (x,a.block::l)
   |none=>none
  |_,_=>none
 |_=>none
def mO{P:aN}{cs:Array aj}{α:Type}{w:ak}{s:iT α}:∀ {a:α} {l:List Nat},look P cs s=some (a,l)->(∀b∈l,∃ty fr,w.heap[b]?=some (.cells cs ty fr))->s.run P w=.ok a w:=by
 induction s with
 |pure x=>intro a l h _;cases h;rfl
 |program k ih=>intro a l h hB;exact ih P h hB
 |load m ad k ih=>
  intro a l h hB;unfold look at h;cases hs:ad.spot with
  |some _=>rw[hs] at h;simp at h
  |none=>
   cases hc:cs[ad.off]? with
   |none=>rw[hs,hc] at h;simp at h
   |some v=>
    rw[hs,hc] at h;simp only[] at h;cases hk:look P cs (k v) with
    |none=>rw[hk] at h;simp at h
    |some x=>
     rw[hk] at h;obtain⟨x,l'⟩:=x;cases h
     have h1:w.cell? ad=some v:=by
      obtain⟨ty,fr,hb⟩:=hB ad.block (by simp);unfold dP;rw[hb,hs];exact hc
     unfold Sem.run;rw[h1];exact ih v hk fun b hb=>hB b (bT _ hb)
 |_=>intro a l h _;cases h
def uT:Op->Option (List bI)
 |.move x|.assign x|.box _ x|.load _ x|.unOp _ _ x|.convert _ _ x|.fieldAddr _ x _|.field _ x _|.extract x _|.nilCheck x|.makeInterface _ x=>some [x]
 |.binOp _ _ x y _|.indexAddr _ x y|.index _ x y|.lookup _ x y _=>some [x,y]
 |.build _ ps|.buildSlice _ _ ps=>some (ps.toList.map (·.2))
 |.alloc _=>some []
 |.store _ x y|.makeSlice _ x y=>some [x,y]
 |.mapUpdate _ x y z=>some [x,y,z]
 |.slice _ x lo hi mx=>some (x::(lo.toList++(hi.toList++mx.toList)))
 |.makeFunc _ xs ys=>some (xs.toList++ys.toList)
 |.call c=>match c.callee with
  |.value f=>some (f::c.args.toList)
  |.builtin _=>some c.args.toList
  |_=>none
 |_=>none
def map_congr{α:Type}{f g:bI->α}{xs:Array bI}(h:∀x∈xs.toList,f x=g x):xs.map f=xs.map g:=by
 apply Array.ext';rw[wQ,wQ];exact Gy h
def yC{α:Type}{f g:bI->α}{xs:Option bI}(h:∀x∈xs.toList,f x=g x):xs.map f=xs.map g:=by
 cases xs with
 |none=>rfl
 |some x=>simp[h x (by simp)]
def execOp_congr{o:cO}{ev FC:bI->aj}{l:List bI}(hl:uT o.op=some l)(h:∀x∈l,ev x=FC x):bY ev o=bY FC o:=by
 unfold bY;cases ho:o.op<;>rw[ho] at hl<;>simp only[uT] at hl<;>try (cases hl;done)
 case call c=>
  cases hc:c.callee<;>rw[hc] at hl<;>simp only[] at hl<;>try (cases hl;done)
  .cases hl;have h1:c.args.map ev=c.args.map FC:=map_congr fun x hx=>h x (bT _ hx);simp only[B6,hc,h1,h _ (dF ..)]
  cases hl;have h1:c.args.map ev=c.args.map FC:=map_congr h;simp only[B6,hc,h1]
 case build t ps=>
  cases hl
  have h1:(ps.map fun(x:Nat × bI)=>(x.1,ev x.2))=ps.map fun x=>(x.1,FC x.2):=by
   apply Array.ext';rw[wQ,wQ];exact Gy fun x hx=>by rw[h x.2 (dn.2 ⟨x,hx,rfl⟩)]
  simp only[h1]
 case buildSlice t k ps=>
  cases hl
  have h1:(ps.map fun(x:Nat × bI)=>(x.1,ev x.2))=ps.map fun x=>(x.1,FC x.2):=by
   apply Array.ext';rw[wQ,wQ];exact Gy fun x hx=>by rw[h x.2 (dn.2 ⟨x,hx,rfl⟩)]
  simp only[h1]
 case slice t x lo hi mx=>
  cases hl;have h1:lo.map ev=lo.map FC:=yC fun x hx=>h x (by simp[hx]);have h2:hi.map ev=hi.map FC:=yC fun x hx=>h x (by simp[hx]);have h3:mx.map ev=mx.map FC:=yC fun x hx=>h x (by simp[hx]);simp only[h1,h2,h3,h x (by simp)]
 case makeFunc fn xs ys=>
  cases hl;have h1:xs.map ev=xs.map FC:=map_congr fun x hx=>h x (by simp at hx ⊢;exact .inl hx);have h2:ys.map ev=ys.map FC:=map_congr fun x hx=>h x (by simp at hx ⊢;exact .inr hx);simp only[h1,h2]
 all_goals
  cases hl
  first
   |rfl
   |(simp only[h _ (dF ..)];done)
   |(simp only[h _ (dF ..),h _ (bT _ (dF ..))];done)
   |(simp only[h _ (dF ..),h _ (bT _ (dF ..)),h _ (bT _ (bT _ (dF ..)))];done)
structure Cf where
 lits:List (Nat × Bool)
 hs:List (Nat × aj)
 mem:List (Nat × Array aj)
 lds:List (Nat × Nat)
def mF{β:Type}:List (Nat × β)->Nat->Option β
 |[],_=>none
 |p::l,i=>bif Gx p.1 i then some p.2 else mF l i
def zY{β:Type}:∀ {l:List (Nat × β)} {i:Nat} {v:β},mF l i=some v->(i,v)∈l
 |p::l,i,v,h=>by
  unfold mF at h;cases hb:Gx p.1 i with
  |true=>
   rw[hb] at h;have:=iC hb;cases h;obtain⟨a,b⟩:=p;cases this;exact dF ..
  |false=>rw[hb] at h;exact bT _ (zY h)
abbrev En:=List (Nat × Bool) × aj × List Nat
def eqT:Option Nat->Nat->Bool
 |some d,t=>Gx d t
 |none,_=>false
def xQ(aP:Array cO):List Edge->jR->Option Nat
 |[],_=>none
 |e::l,t=>bif fR .any e&&eqT (eo aP e.on) t then some e.on else xQ aP l t
def yr{aP:Array cO}{t j:Nat}:∀ {l:List Edge},xQ aP l t=some j->∃e∈l,e.on=j/\fR .any e=true/\eo aP j=some t
 |e::l,h=>by
  unfold xQ at h;cases hb:(fR .any e&&eqT (eo aP e.on) t) with
  |true=>
   rw[hb] at h;cases h;rw[aJ] at hb;refine⟨e,dF ..,rfl,hb.1,?_⟩;have:=hb.2;cases hd:eo aP e.on with
   |none=>rw[hd] at this;cases this
   |some d=>rw[hd] at this;rw[iC this]
  |false=>
   rw[hb] at h;obtain⟨e',he,h1⟩:=yr h;exact⟨e',bT _ he,h1⟩
def OJ:aj->Bool->Bool
 |.bool true,b=>b
 |.bool false,b=>!b
 |_,_=>false
def oH{v:aj}{b:Bool}:OJ v b=true↔v=.bool b:=by
 unfold OJ;cases v<;>try simp
 rename_i x;cases x<;>cases b<;>simp
def bools:aj->aj->aj->aj
 |.bool t,.bool x,.bool y=>.bool (bif t then x else y)
 |_,_,_=>aw
def isBool:aj->Bool
 |.bool _=>true
 |_=>false
def subs(a b:List (Nat × Bool)):Bool:=a.all fun p=>b.any fun q=>Gx p.1 q.1&&(p.2==q.2)
section
variable(P:aN)(aP:Array cO)(base:List (jR × aj))(C:Cf)
def opAt(i:Nat):Oper:=(aP.toList).getD i default
def C9(st:Nat->En)(l:List Edge):bI->aj
 |.const v=>v
 |.global g=>.pointer (some ⟨g,0,none⟩)
 |.func f=>.func (.func f) #[] #[]
 |.tmp t=>match xQ aP l t with
  |some j=>(st j).2.1
  |none=>(mF base t).getD aw
def vW(st:Nat->En)(l:List Edge)(ch:List (Nat × Bool)):bI->Bool
 |.tmp t=>match xQ aP l t with
  |some j=>subs (st j).1 ch
  |none=>(mF base t).isSome
 |_=>true
def QC(st:Nat->En)(o:cO):Option (List (Nat × Bool)):=
 match o.guard with
 |none=>some []
 |some (j,b)=>match mF C.lits j with
  |some b'=>bif b'==b then some (st j).1 else none
  |none=>some ((j,b)::(st j).1)
def UJ(l:List Edge):bI->Option Bool
 |.tmp t=>(xQ aP l t).bind (mF C.lits)
 |_=>none
def PY(l:List Edge)(c:bI)(b:Bool)(ch:List (Nat × Bool)):List (Nat × Bool):=
 match c with
 |.tmp t=>match xQ aP l t with
  |some j=>(j,b)::ch
  |none=>ch
 |_=>ch
def qO(i:Nat):Option (Nat × Array aj):=C.mem[(mF C.lds i).getD 0]?
def VY(i:Nat):Array Value:=match qO C i with|some m=>m.2|none=>#[]
def E6(st:Nat->En)(i:Nat)(o:cO):Option (Next × List Nat):=look P (VY C i) (bY (C9 aP base st o.after.toList) o)
def yn(st:Nat->En)(i:Nat)(o:cO):aj × List Nat:=
 match mF C.hs i with
 |some v=>(v,[])
 |none=>match o.op with
  |.pick c a b=>(match UJ aP C o.after.toList c with
   |some true=>C9 aP base st o.after.toList a
   |some false=>C9 aP base st o.after.toList b
   |none=>bools (C9 aP base st o.after.toList c) (C9 aP base st o.after.toList a) (C9 aP base st o.after.toList b),[])
  |_=>match E6 P aP base C st i o with
   |some (.value v,bl)=>(v,bl)
   |_=>(aw,[])
def vK(st:Nat->En)(i:Nat)(o:cO):En:=
 match QC C st o with
 |none=>([],aw,[])
 |some ch=>(ch,yn P aP base C st i o)
def F4:Nat->List cO->(Nat->En)->Nat->En
 |_,[],st=>st
 |i,o::l,st=>F4 (i+1) l fun k=>bif Gx k i then vK P aP base C st i o else st k
def nN:Nat->En:=F4 P aP base C 0 aP.toList fun _=>([],aw,[])
def okC(st:Nat->En)(i:Nat)(o:cO)(ch:List (Nat × Bool)):Bool:=
 match o.op with
 |.pick c a b=>(mF C.hs i).isNone&&vW aP base st o.after.toList ch c&&(match UJ aP C o.after.toList c with
  |some true=>OJ (C9 aP base st o.after.toList c) true&&vW aP base st o.after.toList ch a
  |some false=>OJ (C9 aP base st o.after.toList c) false&&vW aP base st o.after.toList ch b
  |none=>isBool (C9 aP base st o.after.toList c)&&isBool (C9 aP base st o.after.toList a)&&isBool (C9 aP base st o.after.toList b) &&
   vW aP base st o.after.toList (PY aP o.after.toList c true ch) a&&vW aP base st o.after.toList (PY aP o.after.toList c false ch) b)
 |_=>(match uT o.op with
   |some l=>l.all (vW aP base st o.after.toList ch)
   |none=>false) &&
  (match mF C.hs i with
  |some _=>true
  |none=>match E6 P aP base C st i o with
   |some (.value _,bl)=>(qO C i).isSome||bl.isEmpty
   |_=>false)
def V4(st:Nat->En):Nat->List cO->Bool
 |_,[]=>true
 |i,o::l=>((match o.guard with
  |some (j,_)=>(eo aP j).isSome&&(match mF C.lits j with|some b'=>OJ (st j).2.1 b'|none=>true)
  |none=>true)&&(match QC C st o with
  |none=>true
  |some ch=>okC P aP base C st i o ch))&&V4 st (i+1) l
def ldL(st:Nat->En):Nat->List cO->List (List Nat)
 |_,[]=>[]
 |i,_::l=>(st i).2.2::ldL st (i+1) l
def ldR(st:Nat->En):Nat->List cO->List (List Nat)
 |_,[]=>[]
 |i,_::l=>((st i).2.2.map fun _=>((qO C i).map (·.1)).getD 0)::ldR st (i+1) l
def mD(st:Nat->En)(ch:List (Nat × Bool)):Bool:=ch.all fun p=>OJ (st p.1).2.1 p.2
def lY(s:iT Next)(w:ak)(v:aj):Prop:=
 match s.run P w with
 |.ok (.value u) w'=>u=v/\Bw w w'
 |.ok (.enter f args) w'=>w'=w/\bm P f args w fun e w''=>e=.returned v/\Bw w w''
 |_=>False
def KH(G:Nat->iT Next->ak->aj->Prop)(S:ak->Prop)(st:Nat->En):List (Nat × aj)->Prop
 |[]=>True
 |p::l=>(∀w,S w->mD st (st p.1).1=true->G p.1 (bY (C9 aP base st (opAt aP p.1).after.toList) (opAt aP p.1)) w p.2)/\KH G S st l
def nO(S:ak->Prop):List (Nat × Array aj)->Prop
 |[]=>True
 |m::l=>(∀w,S w->∃ty fr,w.heap[m.1]?=some (.cells m.2 ty fr))/\nO S l
def xU(st:Nat->En)(i:Nat):Pred:=
 match eo aP i with
 |some _=>fun u _ _=>u=NN (mD st (st i).1) (st i).2.1
 |none=>fun _ _ _=>True
def pN(st:Nat->En):List Pred:=(aS aP.size).map (xU aP st)
def XW(st:Nat->En)(t:jR):List cO->Nat->Option aj
 |[],_=>none
 |o::l,i=>bif eqT o.dst t then(match (st i).1 with|[]=>some (st i).2.1|_=>none) else XW st t l (i+1)
end
section
variable{P:aN}{aP:Array cO}{base:List (jR × aj)}{C:Cf}{n:Nat}{S:ak->Prop}{outs:List (jR × aj)}
theorem lY.yields{o:cO}{ev:bI->aj}{w:ak}{v:aj}{R:aj->ak->Prop}(hg:lY P (bY ev o) w v)(hR:∀w',Bw w w'->R v w'):Yields P o ev w R:=by
 unfold lY at hg;unfold Yields;generalize (bY ev o).run P w=r at *;cases r with
 |halt x w'=>exact hg.elim
 |ok nx w'=>
  cases nx<;>simp only[] at hg<;>first|exact hg.elim|skip
  .obtain⟨rfl,hb⟩:=hg;exact hR _ hb
  obtain⟨rfl,hc⟩:=hg;exact hc.mono (by rintro e w'' ⟨rfl,hb⟩;exact⟨_,rfl,hR _ hb⟩)
theorem KH.get{G:Nat->iT Next->ak->aj->Prop}{st:Nat->En}:∀ {l:List (Nat × aj)} {p:Nat × aj},KH aP base G S st l->p∈l->∀w,S w->mD st (st p.1).1=true->G p.1 (bY (C9 aP base st (opAt aP p.1).after.toList) (opAt aP p.1)) w p.2
 |q::l,p,h,hp=>by
  rcases cj.1 hp with rfl|hp
  .exact h.1
  exact KH.get h.2 hp
theorem nO.get:∀ {l:List (Nat × Array aj)} {m:Nat × Array aj},nO S l->m∈l->∀w,S w->∃ty fr,w.heap[m.1]?=some (.cells m.2 ty fr)
 |q::l,m,h,hp=>by
  rcases cj.1 hp with rfl|hp
  .exact h.1
  exact nO.get h.2 hp
theorem F3:∀(l:List cO) (i:Nat) (st:Nat->En) (k:Nat),k<i->F4 P aP base C i l st k=st k
 |[],_,_,_,_=>rfl
 |o::l,i,st,k,h=>by
  unfold F4;rw[F3 l (i+1) _ k (by omega)]
  have:Gx k i=false:=by
   cases hb:Gx k i with
   |false=>rfl
   |true=>have:=iC hb;omega
  rw[this];rfl
theorem Nk:∀(l:List cO) (i:Nat) (st:Nat->En) (j:Nat) (o:cO),l[j]?=some o->∃P6,F4 P aP base C i l st (i+j)=vK P aP base C P6 (i+j) o/\∀k,k<i+j->P6 k=F4 P aP base C i l st k
 |[],_,_,_,_,h=>by simp at h
 |x::l,i,st,j,o,h=>by
  unfold F4;cases j with
  |zero=>
   simp at h;subst h;refine⟨st,?_,fun k hk=>?_⟩
   .simp only[Nat.add_zero];rw[F3 l (i+1) _ i (by omega)];have:Gx i i=true:=Nat.beq_refl i;rw[this];rfl
   rw[F3 l (i+1) _ k (by omega)]
   have:Gx k i=false:=by
    cases hb:Gx k i with
    |false=>rfl
    |true=>have:=iC hb;omega
   rw[this];rfl
  |succ j=>
   have:=Nk l (i+1) (fun k=>bif Gx k i then vK P aP base C st i x else st k) j o (by simpa using h);rwa [show i+1+j=i+(j+1) by omega] at this
theorem SY{st P6:Nat->En}{l:List Edge}(h:∀e∈l,fR .any e=true->st e.on=P6 e.on):C9 aP base st l=C9 aP base P6 l:=by
 funext x
 cases x<;>try rfl
 rename_i t;unfold C9;cases hs:xQ aP l t with
 |none=>simp only[hs]
 |some j=>
  obtain⟨e,he,h1,h2,-⟩:=yr hs;simp only[hs];rw[<-h1,h e he h2]
theorem Ll{st P6:Nat->En}{i:Nat}{o:cO}(h:∀e∈o.after.toList,fR .any e=true->st e.on=P6 e.on)(hg:∀j b,o.guard=some (j,b)->st j=P6 j):vK P aP base C st i o=vK P aP base C P6 i o:=by
 have h1:=SY (aP:=aP) (base:=base) h
 have h2:QC C st o=QC C P6 o:=by
  unfold QC;cases hgd:o.guard with
  |none=>rfl
  |some jb=>obtain⟨j,b⟩:=jb;simp only[hg j b hgd]
 unfold vK yn E6;rw[h1,h2]
theorem C2{o:cO}{i j:Nat}{b:Bool}(hok:ja aP n base=true)(ho:aP[i]?=some o)(hg:o.guard=some (j,b)):∃e∈o.after.toList,fR .any e=true/\e.on=j:=by
 have hi:i<aP.size:=(ah.1 ho).1;unfold ja at hok;rw[aJ,aX] at hok;have h2:=hok.1 i (bV.2 hi);rw[ho] at h2;simp only[aJ,hg] at h2;obtain⟨e,he,h3⟩:=H4.1 h2.2;rw[aJ,decide_eq_true_eq] at h3;exact⟨e,he,h3⟩
theorem S_(hok:ja aP n base=true){i:Nat}{o:cO}(ho:aP[i]?=some o):nN P aP base C i=vK P aP base C (nN P aP base C) i o:=by
 obtain⟨P6,h1,h2⟩:=Nk (P:=P) (aP:=aP) (base:=base) (C:=C) aP.toList 0 (fun _=>([],aw,[])) i o (by simpa using ho);rw[dh] at h1 h2;unfold nN;rw[h1];refine Ll (fun e he hb=>h2 _ (Gd.qB hok ho he hb)) fun j b hg=>?_;obtain⟨e,he,hb,rfl⟩:=C2 hok ho hg;exact h2 _ (Gd.qB hok ho he hb)
theorem XC{st:Nat->En}{i:Nat}{o:cO}(Sl:∀c a b,o.op≠.pick c a b)(Bo:mF C.hs i=none):yn P aP base C st i o=match E6 P aP base C st i o with|some (.value v,bl)=>(v,bl)|_=>(aw,[]):=by
 unfold yn;rw[Bo];cases ho:o.op<;>first|exact absurd ho (Sl _ _ _)|rfl
theorem aaP{st:Nat->En}{i:Nat}{o:cO}{ch:List (Nat × Bool)}(Sl:∀c a b,o.op≠.pick c a b):okC P aP base C st i o ch=((match uT o.op with | some l=>l.all (vW aP base st o.after.toList ch) | none=>false)&&(match mF C.hs i with | some _=>true | none=>match E6 P aP base C st i o with | some (.value _,bl)=>(qO C i).isSome||bl.isEmpty | _=>false)):=by
 unfold okC;cases ho:o.op<;>first|exact absurd ho (Sl _ _ _)|rfl
theorem EH{st:Nat->En}{i:Nat}{u:aj}{ds:List aj}{w w':ak}(h:xU aP st i u ds w):xU aP st i u ds w':=by
 unfold xU at h ⊢;cases hd:eo aP i with
 |none=>trivial
 |some d=>rw[hd] at h;exact h
theorem tI{st:Nat->En}{i:Nat}(hi:i<aP.size):gJ (pN aP st) i=xU aP st i:=by
 unfold gJ pN;simp[List.getD,hi]
theorem Rb{st:Nat->En}{a b:List (Nat × Bool)}(h:subs a b=true)(hc:mD st b=true):mD st a=true:=by
 unfold subs at h;unfold mD at *;rw[aX] at *;intro p hp;obtain⟨q,hq,h1⟩:=H4.1 (h p hp);rw[aJ] at h1;have h2:=hc q hq;rw[iC h1.1,eq_of_beq h1.2];exact h2
theorem M_{st:Nat->En}:∀ {l:List cO} {i j:Nat} {o:cO},V4 P aP base C st i l=true->l[j]?=some o->
  (∀k b,o.guard=some (k,b)->(eo aP k).isSome=true/\∀b',mF C.lits k=some b'->OJ (st k).2.1 b'=true)/\∀ch,QC C st o=some ch->okC P aP base C st (i+j) o ch=true
 |[],_,_,_,_,h=>by simp at h
 |x::l,i,j,o,hc,h=>by
  unfold V4 at hc;rw[aJ,aJ] at hc;cases j with
  |zero=>
   simp at h;subst h;refine⟨fun k b hg=>?_,fun ch hg=>?_⟩
   .have:=hc.1.1;rw[hg,aJ] at this;refine⟨this.1,fun b' hk=>?_⟩;have h2:=this.2;simp only[hk] at h2;exact h2
   have:=hc.1.2;rw[hg] at this;exact this
  |succ j=>
   have:=M_ hc.2 (j:=j) (by simpa using h);rwa [show i+1+j=i+(j+1) by omega] at this
theorem UM{st:Nat->En}:∀ {l:List cO} {i j:Nat},ldL st i l=ldR C st i l->j<l.length->∀b∈(st (i+j)).2.2,b=((qO C (i+j)).map (·.1)).getD 0
 |[],_,_,_,h=>by simp at h
 |x::l,i,j,he,h=>by
  unfold ldL ldR at he;rw[A2] at he;cases j with
  |zero=>
   intro b hb;rw[Nat.add_zero] at hb ⊢;have h1:=he.1;rw[h1] at hb;obtain⟨_,_,rfl⟩:=dn.1 hb;rfl
  |succ j=>
   have:=UM he.2 (j:=j) (by simpa using h);rwa [show i+1+j=i+(j+1) by omega] at this
theorem aaJ{st:Nat->En}{ev:bI->aj}{w:ak}{o:cO}{i:Nat}{ch:List (Nat × Bool)}(hok:ja aP n base=true)(ho:aP[i]?=some o)(hc:∀v,ev (.const v)=v)(hg:∀g,ev (.global g)=.pointer (some ⟨g,0,none⟩))(hf:∀f,ev (.func f)=.func (.func f) #[] #[])
  (hb:gh ev base) (hd:∀e∈o.after.toList,fR .any e=true->gJ (pN aP st) e.on (jn (eo aP e.on) ev) (gK aP ev (gi aP e.on)) w) (mA:mD st ch=true):∀ {x:bI},vW aP base st o.after.toList ch x=true->ev x=C9 aP base st o.after.toList x
 |.const v,_=>hc v
 |.global g,_=>hg g
 |.func f,_=>hf f
 |.tmp t,h=>by
  unfold vW at h;unfold C9;simp only[] at h ⊢;cases hs:xQ aP o.after.toList t with
  |none=>
   rw[hs] at h;simp only[] at h ⊢;cases hk:mF base t with
   |none=>rw[hk] at h;cases h
   |some v=>
    have:=zY hk;clear hd hok hk h
    induction base with
    |nil=>cases this
    |cons p l ih=>
     rcases cj.1 this with rfl|h2
     .exact hb.1
     exact ih hb.2 h2
  |some j=>
   rw[hs] at h;simp only[] at h ⊢;obtain⟨e,he,rfl,h2,h3⟩:=yr hs;have h4:=hd e he h2;have hlt:=Gd.qB hok ho he h2;have hi:i<aP.size:=(ah.1 ho).1;rw[tI (by omega)] at h4;unfold xU at h4;rw[h3] at h4;simp only[jn] at h4;rw[h4,Rb h mA];rfl
theorem M4{Vs:List Pred}{ev:bI->aj}{w:ak}:∀ {l:List Edge},Gk aP Vs ev w l->∀e∈l,fR .any e=true->gJ Vs e.on (jn (eo aP e.on) ev) (gK aP ev (gi aP e.on)) w
 |e::l,h,e',he,hb=>by
  rcases cj.1 he with rfl|he
  .exact h.1 hb
  exact M4 h.2 e' he hb
theorem Wa{Y:mQ}{G:Nat->iT Next->ak->aj->Prop}{T:ak->ak->Prop}(Xm:∀w w',S w->T w w'->S w')(SA:∀w,T w w){i:Nat}{o:cO}(ho:aP[i]?=some o)
  (hp:mF C.hs i=none->∀ev w R v,(bY ev o).run P w=.ok (.value v) w->R v w->Y o ev w R) (hG:∀ev w v R,S w->G i (bY ev o) w v->(∀w',T w w'->R v w')->Y o ev w R)
  (hok:ja aP n base=true) (hck:V4 P aP base C (nN P aP base C) 0 aP.toList=true) (Sn:ldL (nN P aP base C) 0 aP.toList=ldR C (nN P aP base C) 0 aP.toList) (hm:nO S C.mem)
  (hh:KH aP base G S (nN P aP base C) C.hs):Gd.QR Y aP (pN aP (nN P aP base C)) S base i o:=by
 intro ev w hS hc hg hf hb hd;have hi:i<aP.size:=(ah.1 ho).1;have hat:opAt aP i=o:=by unfold opAt;simp[List.getD,ho]
 have hstep:=S_ (P:=P) (C:=C) hok ho;obtain⟨qT,hk2⟩:=M_ hck (j:=i) (by simpa using ho);rw[dh] at hk2;have Sn:=UM Sn (j:=i) (by simpa using hi);rw[dh] at Sn;generalize hst:nN P aP base C=st at *;have hdm:=M4 hd
 have post:∀ {v:aj} {w':ak},(∀d,o.dst=some d->v=NN (mD st (st i).1) (st i).2.1)->T w w'->Post aP ev (pN aP st) S i o w v w':=fun {v w'} hv ht=>by
  refine⟨?_,.inr ⟨Xm _ _ hS ht,fun k u ds hk hu=>?_⟩⟩
  .rw[tI hi];unfold xU eo;rw[ho];simp only[Option.bind_some];cases vt:o.dst with
   |none=>trivial
   |some d=>exact hv d vt
  by_cases hks:k<aP.size
  .rw[tI hks] at hu ⊢;exact EH hu
  unfold gJ pN;simp[List.getD,hks]
 have go:∀ch,QC C st o=some ch->mD st ch=true->Y o ev w (Post aP ev (pN aP st) S i o w):=fun ch hgd mA=>by
  have vq:=hk2 ch hgd
  have Xe:st i=(ch,yn P aP base C st i o):=by
   rw[hstep];unfold vK;rw[hgd]
  have hval:∀d,o.dst=some d->(yn P aP base C st i o).1=NN (mD st (st i).1) (st i).2.1:=fun d _=>by
   rw[Xe];show(yn P aP base C st i o).1=NN (mD st ch) (yn P aP base C st i o).1;rw[mA];rfl
  have hop:∀ {ch':List (Nat × Bool)} {x:bI},mD st ch'=true->vW aP base st o.after.toList ch' x=true->ev x=C9 aP base st o.after.toList x:=fun h1 h2=>aaJ hok ho hc hg hf hb hdm h1 h2
  have rest:(∀c a b,o.op≠.pick c a b)->Y o ev w (Post aP ev (pN aP st) S i o w):=fun Sl=>by
   have h5:(match uT o.op with | some l=>l.all (vW aP base st o.after.toList ch) | none=>false)=true/\(match mF C.hs i with | some _=>true | none=>match E6 P aP base C st i o with | some (.value _,bl)=>(qO C i).isSome||bl.isEmpty | _=>false)=true:=by
    rw[aaP Sl,aJ] at vq;exact vq
   cases hl:uT o.op with
   |none=>rw[hl] at h5;cases h5.1
   |some l=>
    rw[hl] at h5;have hex:bY ev o=bY (C9 aP base st o.after.toList) o:=execOp_congr hl fun x hx=>hop mA (aX.1 h5.1 x hx);cases Bo:mF C.hs i with
    |some v=>
     have h6:=hh.get (zY Bo) w hS (by rw[Xe];exact mA);simp only[hat] at h6;rw[<-hex] at h6;have hv:(yn P aP base C st i o).1=v:=by unfold yn;rw[Bo]
     rw[hv] at hval;exact hG ev w v _ hS h6 fun w' ht=>post hval ht
    |none=>
     rw[Bo] at h5;cases hlk:E6 P aP base C st i o with
     |none=>rw[hlk] at h5;cases h5.2
     |some nb=>
      obtain⟨nx,bl⟩:=nb;rw[hlk] at h5;cases nx<;>try (cases h5.2;done)
      rename_i v;have hv:yn P aP base C st i o=(v,bl):=by rw[XC Sl Bo,hlk]
      rw[hv] at hval Xe
      have hbl:∀b∈bl,∃ty fr,w.heap[b]?=some (.cells (VY C i) ty fr):=fun b Sy=>by
       have h7:=Sn b (by rw[Xe];exact Sy);have h8:=h5.2;simp only[] at h8;unfold VY;cases hmm:qO C i with
       |none=>
        rw[hmm] at h8;cases bl with
        |nil=>cases Sy
        |cons _ _=>cases h8
       |some m=>
        rw[hmm] at h7;have h7:b=m.1:=h7;subst h7;unfold qO at hmm;exact hm.get (List.mem_of_getElem? hmm) w hS
      have hrun:=mO (w:=w) hlk hbl;rw[<-hex] at hrun;exact hp Bo ev w _ v hrun (post hval (SA w))
  by_cases Gr:∃c a b,o.op=.pick c a b
  case neg=>exact rest fun c a b h=>Gr ⟨c,a,b,h⟩
  obtain⟨c,a,b,Bl⟩:=Gr;unfold okC at vq;rw[Bl] at vq;simp only[aJ] at vq;obtain⟨⟨hnone,abg⟩,sD⟩:=vq;have Bo:mF C.hs i=none:=by simpa using hnone
  have OV:=hop mA abg;cases J8:UJ aP C o.after.toList c with
  |some t=>
   rw[J8] at sD
   have hv:(yn P aP base C st i o).1=if t then C9 aP base st o.after.toList a else C9 aP base st o.after.toList b:=by
    unfold yn;rw[Bo,Bl];simp only[J8];cases t<;>rfl
   cases t with
   |true=>
    rw[aJ] at sD;have hrun:=rM (P:=P) (w:=w) Bl (OV.trans (oH.1 sD.1));refine hp Bo ev w _ _ hrun (post (fun d hd=>?_) (SA w));rw[<-hval d hd,hv];exact hop mA sD.2
   |false=>
    rw[aJ] at sD;have hrun:=rM (P:=P) (w:=w) Bl (OV.trans (oH.1 sD.1));refine hp Bo ev w _ _ hrun (post (fun d hd=>?_) (SA w));rw[<-hval d hd,hv];exact hop mA sD.2
  |none=>
   rw[J8] at sD;simp only[aJ] at sD;obtain⟨⟨⟨⟨h1,h2⟩,h3⟩,h4⟩,h5⟩:=sD
   have hv:(yn P aP base C st i o).1=bools (C9 aP base st o.after.toList c) (C9 aP base st o.after.toList a) (C9 aP base st o.after.toList b):=by
    unfold yn;rw[Bo,Bl];simp only[J8]
   have ib:∀ {v:aj},isBool v=true->∃x,v=.bool x:=fun {v} h=>by cases v<;>first|exact⟨_,rfl⟩|cases h
   obtain⟨t,ht⟩:=ib h1;obtain⟨x,hx⟩:=ib h2;obtain⟨y,hy⟩:=ib h3
   have hw:∀q,t=q->mD st (PY aP o.after.toList c q ch)=true:=fun q hq=>by
    unfold PY;cases c<;>simp only[]<;>try exact mA
    rename_i tc;cases hs:xQ aP o.after.toList tc with
    |none=>exact mA
    |some j=>
     have:(st j).2.1=.bool t:=by
      have:=ht;unfold C9 at this;simp only[hs] at this;exact this
     unfold mD at mA ⊢;rw[dX,mA,this,hq];cases q<;>rfl
   have hrun:=rM (P:=P) (w:=w) Bl (OV.trans ht);refine hp Bo ev w _ _ hrun (post (fun d hd=>?_) (SA w));rw[<-hval d hd,hv,ht,hx,hy];cases t with
   |true=>exact(hop (hw true rfl) h4).trans hx
   |false=>exact(hop (hw false rfl) h5).trans hy
 cases hgd:o.guard with
 |none=>
  exact go [] (by unfold QC;rw[hgd]) rfl
 |some jb=>
  obtain⟨j,b⟩:=jb;simp only[];obtain⟨e,he,heb,rfl⟩:=C2 hok ho hgd;have Fg:=hdm e he heb;have hlt:=Gd.qB hok ho he heb;rw[tI (by omega)] at Fg;obtain⟨hsome,qT⟩:=qT _ _ hgd;obtain⟨d0,hdd⟩:=Option.isSome_iff_exists.1 hsome;unfold xU at Fg;rw[hdd] at Fg;simp only[] at Fg;generalize hvv:jn (some d0) ev=val at *;rw[hdd,hvv];cases hk:mF C.lits e.on with
  |some b'=>
   have aiZ:=oH.1 (qT _ hk);rw[aiZ] at Fg
   by_cases qu:b'=b
   .subst qu;have xA:QC C st o=some (st e.on).1:=by unfold QC;rw[hgd];simp only[hk];simp
    have Xe:(st i).1=(st e.on).1:=by rw[hstep];unfold vK;rw[xA]
    refine⟨fun hv=>go _ xA ?_,fun hv=>post (fun d _=>?_) (SA w)⟩
    .rw[hv] at Fg;cases hcc:mD st (st e.on).1 with
     |true=>rfl
     |false=>rw[hcc] at Fg;simp[NN,aw] at Fg
    .rw[Xe];cases hcc:mD st (st e.on).1 with
     |false=>rfl
     |true=>rw[hcc] at Fg;exact absurd Fg hv
   .have xA:QC C st o=none:=by
     unfold QC;rw[hgd];simp only[hk];have:(b'==b)=false:=beq_false_of_ne qu;rw[this];rfl
    have Xe:st i=([],aw,[]):=by rw[hstep];unfold vK;rw[xA]
    refine⟨fun hv=>?_,fun hv=>post (fun d _=>by rw[Xe];rfl) (SA w)⟩;exfalso;rw[hv] at Fg;cases hcc:mD st (st e.on).1 with
    |true=>rw[hcc] at Fg;simp[NN] at Fg;exact qu Fg.symm
    |false=>rw[hcc] at Fg;simp[NN,aw] at Fg
  |none=>
   have xA:QC C st o=some ((e.on,b)::(st e.on).1):=by unfold QC;rw[hgd];simp only[hk]
   have Xe:(st i).1=(e.on,b)::(st e.on).1:=by rw[hstep];unfold vK;rw[xA]
   have hca:mD st ((e.on,b)::(st e.on).1)=(OJ (st e.on).2.1 b&&mD st (st e.on).1):=by unfold mD;rw[dX]
   refine⟨fun hv=>go _ xA ?_,fun hv=>post (fun d _=>?_) (SA w)⟩
   .rw[hca];rw[hv] at Fg;cases hcc:mD st (st e.on).1 with
    |true=>
     rw[hcc] at Fg;have h1:(st e.on).2.1=.bool b:=Fg.symm;rw[h1];cases b<;>rfl
    |false=>rw[hcc] at Fg;simp[NN,aw] at Fg
   .rw[Xe,hca];cases hcc:mD st (st e.on).1 with
    |false=>rw[Bool.and_false];rfl
    |true=>
     cases hib:OJ (st e.on).2.1 b with
     |false=>rfl
     |true=>
      rw[hcc,oH.1 hib] at Fg;exact absurd Fg hv
theorem IX{Y:mQ}:∀ {i:Nat} {l:List cO} {Vs:List Pred},(∀j o,l[j]?=some o->Gd.QR Y aP Vs S base (i+j) o)->Gd.Each Y aP Vs S base i l
 |_,[],_,_=>trivial
 |i,o::l,Vs,h=>⟨by have:=h 0 o (by simp);rwa [Nat.add_zero] at this,IX fun j o' hj=>by have:=h (j+1) o' (by simpa using hj);rwa [show i+(j+1)=i+1+j by omega] at this⟩
def JA(P:aN)(aP:Array cO)(n:Nat)(base:List (jR × aj))(C:Cf)(outs:List (jR × aj)):Bool × List (List Nat) × List (Option aj):=
 (ja aP n base&&V4 P aP base C (nN P aP base C) 0 aP.toList,ldL (nN P aP base C) 0 aP.toList,outs.map fun p=>XW (nN P aP base C) p.1 aP.toList 0)
def zE(P:aN)(aP:Array cO)(base:List (jR × aj))(C:Cf)(outs:List (jR × aj)):Bool × List (List Nat) × List (Option aj):=(true,ldR C (nN P aP base C) 0 aP.toList,outs.map fun p=>some p.2)
theorem BR(Xm:∀w w',S w->Bw w w'->S w')(hr:JA P aP n base C outs=zE P aP base C outs)(hm:nO S C.mem)(hh:KH aP base (fun _=>lY P) S (nN P aP base C) C.hs) :
  Gd.Each (Yields P) aP (pN aP (nN P aP base C)) S base 0 aP.toList:=by
 unfold JA zE at hr;rw[iq,iq,aJ] at hr;obtain⟨⟨hok,hck⟩,Sn,-⟩:=hr;refine IX fun j o hj=>?_;rw[dh];exact Wa (T:=fun w w'=>Bw w w') Xm (fun w=>aB _ _) (by simpa using hj) (fun _ ev w R v hrun hR=>.value hrun hR) (fun ev w v R _ hg hR=>hg.yields hR) hok hck Sn hm hh
theorem su{st:Nat->En}:jo S (pN aP st):=by
 unfold pN
 have:∀l:List Nat,jo S (l.map (xU aP st)):=fun l=>by
  induction l with
  |nil=>trivial
  |cons i l ih=>
   exact⟨fun u ds w w' _ h _=>EH h,ih⟩
 exact this _
theorem Qd{st:Nat->En}{t:jR}{v:aj}:∀ {l:List cO} {i:Nat},XW st t l i=some v->∃j o,l[j]?=some o/\o.dst=some t/\(st (i+j)).1=[]/\(st (i+j)).2.1=v
 |o::l,i,h=>by
  unfold XW at h;cases hb:eqT o.dst t with
  |true=>
   rw[hb] at h;simp only[cond_true] at h;cases hs:(st i).1 with
   |nil=>
    rw[hs] at h;refine⟨0,o,rfl,?_,hs,by simpa using h⟩;cases hd:o.dst with
    |none=>rw[hd] at hb;cases hb
    |some d=>rw[hd] at hb;rw[iC hb]
   |cons _ _=>rw[hs] at h;cases h
  |false=>
   rw[hb] at h;obtain⟨j,o',h1,h2,h3,h4⟩:=Qd h;exact⟨j+1,o',by simpa using h1,h2,by rwa [show i+(j+1)=i+1+j by omega],by rwa [show i+(j+1)=i+1+j by omega]⟩
theorem ze{a0 a:j6}{w:ak}(hF:gw n a0 base)(hr:JA P aP n base C outs=zE P aP base C outs)(h:jh aP (pN aP (nN P aP base C)) S a0 (Array.replicate aP.size true) a w):gw n a (outs++base):=by
 unfold JA zE at hr;rw[iq,iq,aJ] at hr;obtain⟨⟨hok,-⟩,-,hout⟩:=hr
 have Vc:gw n a base:=⟨h.size.trans hF.size,h.defers.trans hF.defers,hF.base.congr fun p hp=>h.keep _ fun o' ho' hd=>by
  obtain⟨k,hk,rfl⟩:=List.getElem_of_mem ho';have rA:k<aP.size:=by simpa using hk
  unfold ja at hok;rw[aJ,aX] at hok;have h3:=hok.1 k (bV.2 rA);rw[aQ rA] at h3;simp only[Array.getElem_toList] at hd;simp only[aJ,hd] at h3;have:=aX.1 h3.1.2.1.2 p hp
  simp at this⟩
 refine⟨Vc.size,Vc.defers,?_⟩
 induction outs with
 |nil=>exact Vc.base
 |cons p l ih=>
  rw[cV,cV,A2] at hout;refine⟨?_,ih hout.2⟩;obtain⟨j,o,h1,h2,h3,h4⟩:=Qd hout.1;rw[dh] at h3 h4
  have hj:j<aP.size:=by
   have:=(pG.1 h1).1;simpa using this
  have hv:=h.vals j (by simp[Array.getD,hj]);have NK:eo aP j=some p.1:=by unfold eo;rw[show aP[j]?=some o by simpa using h1];exact h2
  rw[tI hj] at hv;unfold xU at hv;rw[NK] at hv;simp only[jn] at hv;rw[hv,h3,h4];rfl
theorem Jz(hr:JA P aP n base C outs=zE P aP base C outs):ja aP n base=true:=by
 unfold JA zE at hr;rw[iq,aJ] at hr;exact hr.1.1
def sX(K:List (jR × aj)->Prop):List (jR × aj)->List (jR × aj)->Prop
 |[],l=>K l
 |p::r,l=>sX K r (p::l)
theorem sX.get{K:List (jR × aj)->Prop}:∀ {r l:List (jR × aj)},sX K r l->K (r.reverse++l)
 |[],l,h=>h
 |p::r,l,h=>by have:=sX.get (r:=r) h;simpa using this
theorem gw.rev{n:Nat}{a:j6}{r l:List (jR × aj)}(h:gw n a (r++l)):gw n a (r.reverse++l):=by
 refine⟨h.size,h.defers,?_⟩;have h1:=h.base;clear h
 have iff:∀(ev:bI->aj) (l:List (jR × aj)),gh ev l↔∀p∈l,ev (.tmp p.1)=p.2:=fun ev l=>by
  induction l with
  |nil=>simp[gh]
  |cons p l ih=>simp[gh,ih]
 rw[iff] at *;intro p hp;refine h1 p ?_;simp at hp ⊢;exact hp
variable{Q:Exit->j6->ak->Prop}
theorem I1(hmx:P.follows .mixedOrders=true)(C:Cf)(outs:List (jR × aj)){id:Nat}{y:Code}{a0:j6}{W:ak}(hF:gw n a0 base)(hm:nO (fun w=>Bw W w) C.mem)(hh:KH aP base (fun _=>lY P) (fun w=>Bw W w) (nN P aP base C) C.hs)(hy:sX (fun l=>∀a w,Bw W w->gw n a l->y.wp P Q a w) outs base)(hr:JA P aP n base C outs=zE P aP base C outs:=by kernel_rfl):(Code.seq (.region id aP true) y).wp P Q a0 W:=
 M3 hmx _ base (Jz hr) hF.size hF.base su (BR (fun _ _ h hb=>h.trans (hb.mono h.size)) hr hm hh) fun a w h=>hy.get a w h.s (ze hF hr h).rev
theorem acK(hmx:P.follows .mixedOrders=true)(C:Cf)(outs:List (jR × aj)){id:Nat}{a0:j6}{W:ak}(hF:gw n a0 base)(hm:nO (fun w=>Bw W w) C.mem)(hh:KH aP base (fun _=>lY P) (fun w=>Bw W w) (nN P aP base C) C.hs)(hy:sX (fun l=>∀a w,Bw W w->gw n a l->Q .normal a w) outs base)(hr:JA P aP n base C outs=zE P aP base C outs:=by kernel_rfl):(Ch id aP true).wp P Q a0 W:=
 agj hmx _ base (Jz hr) hF.size hF.base su (BR (fun _ _ h hb=>h.trans (hb.mono h.size)) hr hm hh) fun a w h=>hy.get a w h.s (ze hF hr h).rev
variable{s:iT Next}{w:ak}{v:aj}
theorem gc{f:FuncId}{args:Array aj}(h:bm P f args w fun e w'=>e=.returned v/\Bw w w')(he:look P #[] s=some (.enter f args,[]):=by kernel_rfl):lY P s w v:=by
 unfold lY;rw[mO he (by simp)];exact⟨rfl,h⟩
theorem ge{u:aj}(h:u=v)(he:look P #[] s=some (.value u,[]):=by kernel_rfl):lY P s w v:=by
 unfold lY;rw[mO he (by simp)];exact⟨h,aB _ _⟩
theorem gs(s':iT aj)(h:s'.run P w=.ok v w)(he:s=(do pure (.value (<-s'))):=by kernel_rfl):lY P s w v:=by
 unfold lY;rw[he,Sem.run_bind,h];exact⟨rfl,aB _ _⟩
theorem gr(h:s.run P w=.ok (.value v) w):lY P s w v:=by
 unfold lY;rw[h];exact⟨rfl,aB _ _⟩
def UI(P:aN)(v:aj):iT Next->Option (cX × Option (Next × List Nat))
 |.load _ a k=>some (a,look P #[] (k v))
 |.program k=>UI P v (k P)
 |_=>none
theorem gl{a:cX}(h:w.cell? a=some v)(he:UI P v s=some (a,some (.value v,[])):=by kernel_rfl):lY P s w v:=by
 refine gr ?_
 induction s with
 |load m b k _=>
  unfold UI at he;simp only[ia,iq] at he;obtain⟨rfl,he⟩:=he
  conv=>lhs;unfold Sem.run
  rw[h];exact mO he (by simp)
 |program k ih=>exact ih P he
 |_=>cases he
end
end Go.Lag
namespace Go.Proofs.YtffladgmkiimjaaGreatDoor
open Go Go.RowKit Go.Lag Go.ChangeShapes Go.WideShapes
def akj:Tryz.prog.cellTypes Tryz.prog.depth 28=some [3,3,3,3,3,3,3,3,3,3,3,3,24,25,26]:=kQ
def ako:Tryz.prog.cellsOf 28=15:=kQ
def akl:Tryz.prog.cellsOf 79=3:=kQ
def SliceAt(W:ak)(v:aj):Prop:=v=.slice none 0 0\/∃g off n c,v=.slice (some ⟨g,off,none⟩) n c/\n<=c/\g<W.heap.size
def Ln{W:ak}{base:Nat}{t e:a7}{v:aj}(ht:Tryz.prog.underlying t=some (.slice e))(h:Cell.okWide aq W .any base t v):SliceAt W v:=by
 unfold Cell.okWide Cell.ok at h;rw[ht] at h;cases v<;>simp only at h<;>try exact h.elim
 rename_i p n c;cases p with
 |none=>
  cases n<;>cases c<;>simp only at h<;>first|exact h.elim|exact .inl rfl
 |some a=>
  obtain⟨h1,h2,-,h3,row,cells,h4,-⟩:=h;obtain⟨b,o,s⟩:=a;cases h3;refine .inr ⟨b,o,n,c,rfl,h1,?_⟩;unfold World.shape? at h4
  by_cases hb:b<W.heap.size
  .exact hb
  rw[fS (show W.heap.size<=b from Nat.le_of_not_lt hb)] at h4;simp at h4
def UT{W:ak}{base:Nat}{t:a7}{k:IntKind}{v:aj}(ht:Tryz.prog.underlying t=some (.int k))(h:Cell.okWide aq W .any base t v):∃x,v=.int k x/\k.has x:=by
 unfold Cell.okWide Cell.ok at h;rw[ht] at h;cases v<;>simp only at h<;>try exact h.elim
 obtain⟨rfl,h⟩:=h;exact⟨_,rfl,h⟩
def Y8{W:ak}{base:Nat}{v:aj}(h:Value.okWide aq W .any base 28 v):∃(b:BB) (m s k:aj),v=.agg (b.cells m s k)/\SliceAt W m/\SliceAt W s/\SliceAt W k:=by
 unfold Value.okWide at h;rw[cM] at h;obtain⟨cs,rfl,hc,ts,hts,-,hall⟩:=h;rw[akj] at hts;cases hts;rw[ako] at hc
 have hi:∀i (h:i<12),∃x,cs[i]?=some (.int .i64 x):=by
  intro i h;have hl:i<cs.size:=oM;obtain⟨u,hu,hok⟩:=hall i _ (aQ hl)
  have h3:u=3:=by
   rw[Nat.mod_eq_of_lt sO] at hu
   match i,h,hu with
   |0,_,hu|1,_,hu|2,_,hu|3,_,hu|4,_,hu|5,_,hu|6,_,hu|7,_,hu|8,_,hu|9,_,hu|10,_,hu|11,_,hu=>simpa using hu.symm
  subst h3;obtain⟨x,hx,-⟩:=UT ep hok;exact⟨x,(aQ hl).trans (congrArg some hx)⟩
 have hs:∀i t (h:i<15),[3,3,3,3,3,3,3,3,3,3,3,3,24,25,26][i]?=some t->∀e,Tryz.prog.underlying t=some (.slice e)->∃x,cs[i]?=some x/\SliceAt W x:=by
  intro i t h ht e he;have hl:i<cs.size:=oM;obtain⟨u,hu,hok⟩:=hall i _ (aQ hl);rw[Nat.mod_eq_of_lt (by simpa using h),ht] at hu;cases hu;exact⟨_,aQ hl,Ln he hok⟩
 obtain⟨x0,e0⟩:=hi 0 oM;obtain⟨x1,e1⟩:=hi 1 oM;obtain⟨x2,e2⟩:=hi 2 oM;obtain⟨x3,e3⟩:=hi 3 oM;obtain⟨x4,e4⟩:=hi 4 oM;obtain⟨x5,e5⟩:=hi 5 oM;obtain⟨x6,e6⟩:=hi 6 oM;obtain⟨x7,e7⟩:=hi 7 oM;obtain⟨x8,e8⟩:=hi 8 oM;obtain⟨x9,e9⟩:=hi 9 oM;obtain⟨qD,Pe⟩:=hi 10 oM;obtain⟨qC,e11⟩:=hi 11 oM;obtain⟨m,TD,hm⟩:=hs 12 24 oM rfl _ Tryz.underlying24;obtain⟨s,Y2,hs'⟩:=hs 13 25 oM rfl _ Tryz.underlying25;obtain⟨k,Gv,hk⟩:=hs 14 26 oM rfl _ Tryz.underlying26;refine⟨⟨x0,x1,x2,x3,x4,x5,x6,x7,x8,x9,qD,qC⟩,m,s,k,?_,hm,hs',hk⟩
 congr 1
 apply Array.ext';apply List.ext_getElem?;intro i
 by_cases h:i<15
 .rw[Array.getElem?_toList,Array.getElem?_toList]
  match i,h with
  |0,_=>exact e0
  |1,_=>exact e1
  |2,_=>exact e2
  |3,_=>exact e3
  |4,_=>exact e4
  |5,_=>exact e5
  |6,_=>exact e6
  |7,_=>exact e7
  |8,_=>exact e8
  |9,_=>exact e9
  |10,_=>exact Pe
  |11,_=>exact e11
  |12,_=>exact TD
  |13,_=>exact Y2
  |14,_=>exact Gv
 rw[Array.getElem?_toList,Array.getElem?_toList,fS oM,fS sO]
def V5{W:ak}{base:Nat}{a:cX}{cs:List aj}(h:W.cells? base a 3=some cs):∃x y z,cs=[x,y,z]/\W.cell? (a.add 0)=some x/\W.cell? (a.add 1)=some y/\W.cell? (a.add 2)=some z:=by
 unfold World.cells? at h;split at h
 .simp only[show aS 3=[0,1,2] from rfl,List.mapM_cons,List.mapM_nil] at h;cases h0:W.cell? (a.add 0)<;>rw[h0] at h<;>simp at h;cases h1:W.cell? (a.add 1)<;>rw[h1] at h<;>simp at h;cases h2:W.cell? (a.add 2)<;>rw[h2] at h<;>simp at h;exact⟨_,_,_,h.symm,rfl,rfl,rfl⟩
 cases h
def py(g off k:Nat):(⟨g,off,none⟩:cX).add k=⟨g,off+k,none⟩:=by
 unfold Addr.add;split
 .rename_i h;rw[h];rfl
 rfl
section
variable{H:Type}{enc:a7 × aj->H}{W:ak}{sp:Nat->Bool}{hd:Bool}
theorem Px{fuel:Nat}{b:BB}{m s k:aj}{x:DataW H × List MemPlace}(h:DataW.trod enc aq W 0 sp hd fuel 28 (b.cells m s k).toList=some x) :
  (∃n y,DataW.trod enc aq W 0 sp hd n 24 [m]=some y)/\(∃n y,DataW.trod enc aq W 0 sp hd n 25 [s]=some y)/\(∃n y,DataW.trod enc aq W 0 sp hd n 26 [k]=some y):=by
 obtain⟨xs,n,-,-,-,hlen,hf⟩:=DataW.trod_struct cM h;have h10:=hf 10 _ rfl;have h11:=hf 11 _ rfl;have YM:=hf 12 _ rfl;have hl:xs.length=13:=hlen;have QK:Tryz.prog.cellsOf 24=1:=kQ;have c25:Tryz.prog.cellsOf 25=1:=kQ;have c26:Tryz.prog.cellsOf 26=1:=kQ;rw[List.getElem?_eq_getElem oM] at h10 h11 YM;simp only[QK,c25,c26] at h10 h11 YM;exact⟨⟨n,_,h10⟩,⟨n,_,h11⟩,⟨n,_,YM⟩⟩
theorem UD{fuel:Nat}{g off n c:Nat}{x:DataW H × List MemPlace}(vF:n<=c)(h:DataW.trod enc aq W 0 (fun _=>true) hd fuel 24 [.slice (some ⟨g,off,none⟩) n c]=some x) :
  ∀i,i<n->∃mn:Mn,W.cell? ⟨g,off+i*3,none⟩=some (.string mn.name)/\W.cell? ⟨g,off+i*3+1,none⟩=some (.int .i64 mn.lo)/\W.cell? ⟨g,off+i*3+2,none⟩=some (.int .i64 mn.hi):=by
 intro i hi;rcases Go.Deep.open_slice Tryz.underlying24 h with⟨h0,-⟩|⟨a,len,cap,mm,nn,D,Pl,h0,-,-,-,hm,-,hel⟩
 .cases h0
 cases h0;obtain⟨cs',hc,ht⟩:=hel i (by rw[hm];simp;omega);rw[akl] at hc;obtain⟨x,y,z,rfl,e0,e1,e2⟩:=V5 hc;rw[py,py] at e0 e1 e2;obtain⟨y0,y1,n1,-,-,t0,t1⟩:=trod_struct2 Tryz.underlying79 ht;have c9:Tryz.prog.cellsOf 9=1:=kQ;have c23:Tryz.prog.cellsOf 23=2:=kQ;have c3:Tryz.prog.cellsOf 3=1:=kQ;simp only[c9,c23] at t0 t1;obtain⟨z0,z1,n2,-,-,u0,u1⟩:=trod_struct2 Tryz.underlying23 t1;simp only[c3] at u0 u1;obtain⟨s,hs,-⟩:=DataW.trod_string Tryz.underlying9 t0;obtain⟨lo,hlo,-⟩:=DataW.trod_int ep u0;obtain⟨hi',hhi,-⟩:=DataW.trod_int ep u1;simp at hs hlo hhi;subst hs;subst hlo;subst hhi;exact⟨⟨s,lo,hi'⟩,e0,e1,e2⟩
end
def RA{W:ak}{g off n c:Nat}(vF:n<=c)(hg:g<W.heap.size)(hn:n<=20)(h:∀i,i<n->∃mn:Mn,W.cell? ⟨g,off+i*3,none⟩=some (.string mn.name)/\W.cell? ⟨g,off+i*3+1,none⟩=some (.int .i64 mn.lo)/\W.cell? ⟨g,off+i*3+2,none⟩=some (.int .i64 mn.hi)) :
  ∃ml:List Mn,ml.length=n/\Reads W (.slice (some ⟨g,off,none⟩) n c) n (fQ ml):=by
 obtain⟨f,hf⟩:∃f:Nat->Mn,∀i,i<n->W.cell? ⟨g,off+i*3,none⟩=some (.string (f i).name)/\W.cell? ⟨g,off+i*3+1,none⟩=some (.int .i64 (f i).lo)/\W.cell? ⟨g,off+i*3+2,none⟩=some (.int .i64 (f i).hi):=
  ⟨fun i=>if hi:i<n then(h i hi).choose else⟨⟨#[]⟩,0,0⟩,fun i hi=>by simp only[dif_pos hi];exact(h i hi).choose_spec⟩
 refine⟨(aS n).map f,sM,.inr ⟨g,off,c,rfl,⟨oM,vF⟩,hg,fun j u hj=>?_⟩⟩;have NI:j<(fQ ((aS n).map f)).length:=(pG.1 hj).1;rw[wX] at NI;simp at NI;have hk:j / 3<n:=oM;have e:j=3*(j / 3)+j % 3:=oM;rw[e,lh _ _ _ (by simpa using hk) oM] at hj;obtain⟨h0,h1,h2⟩:=hf (j / 3) hk;simp only[List.getElem_map,List.getElem_range] at hj;have h3:j % 3<3:=Nat.mod_lt _ dC;rw[show off+j=off+(j / 3)*3+j % 3 by omega]
 match j % 3,h3,hj with
 |0,_,hj=>simp at hj;subst hj;exact h0
 |1,_,hj=>simp at hj;subst hj;exact h1
 |2,_,hj=>simp at hj;subst hj;exact h2
def UH{w:ak}{B C g off L cap j:Nat}{n lo hi:Int}{b:BB}{bq aM aC:aj}(h:w.heap[B]?=some (au (b.cells bq aM aC) 119 (0,0)))(hC:w.cell? ⟨C,0,none⟩=some (ae (some ⟨g,off,none⟩) L cap))(SC:C<w.heap.size)(hg:g<w.heap.size)(hn:w.cell? ⟨g,off+j,none⟩=some (ag af n)){w':ak}(hb:fV (w.heap.size+1) (w.alloc (au #[ag af ((j:Int)+1),ag af lo,ag af hi] 81)) w'):(w'.cell? ⟨B,0,none⟩=some (ag af b.room)/\w'.cell? ⟨B,1,none⟩=some (ag af b.depth)/\w'.cell? ⟨B,2,none⟩=some (ag af b.least)/\w'.cell? ⟨B,3,none⟩=some (ag af b.minutes)/\w'.cell? ⟨B,4,none⟩=some (ag af b.bS)/\w'.cell? ⟨B,5,none⟩=some (ag af b.iU)/\w'.cell? ⟨B,6,none⟩=some (ag af b.eI)/\w'.cell? ⟨B,7,none⟩=some (ag af b.iO)/\w'.cell? ⟨B,8,none⟩=some (ag af b.ll)/\w'.cell? ⟨B,9,none⟩=some (ag af b.lm)/\w'.cell? ⟨B,10,none⟩=some (ag af b.pl)/\w'.cell? ⟨B,11,none⟩=some (ag af b.pm)/\w'.cell? ⟨B,12,none⟩=some (bq)/\w'.cell? ⟨B,13,none⟩=some (aM)/\w'.cell? ⟨B,14,none⟩=some (aC)/\w'.cell? ⟨C,0,none⟩=some (ae (some ⟨g,off,none⟩) L cap)/\w'.cell? ⟨g,off+j,none⟩=some (ag af n)/\w'.cell? ⟨w.heap.size,0,none⟩=some (ag af ((j:Int)+1))/\w'.cell? ⟨w.heap.size,1,none⟩=some (ag af lo)/\w'.cell? ⟨w.heap.size,2,none⟩=some (ag af hi))/\fV (w.heap.size+1) (w.alloc (au #[ag af ((j:Int)+1),ag af lo,ag af hi] 81)) w':=by
 have hBl:B<w.heap.size:=(ah.1 h).1;have h':w'.heap[B]?=some (au (b.cells bq aM aC) 119 (0,0)):=by rw[hb.block B oM,aZ _ _ _ hBl];exact h
 have hnew:w'.heap[w.heap.size]?=some (au #[ag af ((j:Int)+1),ag af lo,ag af hi] 81 (0,0)):=by rw[hb.block w.heap.size oM];exact az w _
 obtain⟨x0,x1,x2,x3,x4,x5,x6,x7,x8,x9,qD,qC,rH,rz,rB⟩:=cg h';refine⟨⟨x0,x1,x2,x3,x4,x5,x6,x7,x8,x9,qD,qC,rH,rz,rB,?_,?_,?_,?_,?_⟩,hb⟩
 .exact(hb.cell (p:=⟨C,0,none⟩) (by show C<_;omega)).trans ((eD _ _ _ SC).trans hC)
 .exact(hb.cell (p:=⟨g,off+j,none⟩) (by show g<_;omega)).trans ((eD _ _ _ hg).trans hn)
 .simp[dP,hnew]
 .simp[dP,hnew]
 simp[dP,hnew]
def E4{w:ak}{B C g off L cap j:Nat}{n lo hi:Int}{b:BB}{bq aM aC:aj}(h:w.heap[B]?=some (au (b.cells bq aM aC) 119 (0,0)))(hC:w.cell? ⟨C,0,none⟩=some (ae (some ⟨g,off,none⟩) L cap))(SC:C<w.heap.size)(hg:g<w.heap.size)(hn:w.cell? ⟨g,off+j,none⟩=some (ag af n)){w1 w':ak}(hb:fV (w.heap.size+1) (w.alloc (au #[ag af ((j:Int)+1),ag af lo,ag af hi] 81)) w1)(hb2:Bw w1 w'):(w'.cell? ⟨B,0,none⟩=some (ag af b.room)/\w'.cell? ⟨B,1,none⟩=some (ag af b.depth)/\w'.cell? ⟨B,2,none⟩=some (ag af b.least)/\w'.cell? ⟨B,3,none⟩=some (ag af b.minutes)/\w'.cell? ⟨B,4,none⟩=some (ag af b.bS)/\w'.cell? ⟨B,5,none⟩=some (ag af b.iU)/\w'.cell? ⟨B,6,none⟩=some (ag af b.eI)/\w'.cell? ⟨B,7,none⟩=some (ag af b.iO)/\w'.cell? ⟨B,8,none⟩=some (ag af b.ll)/\w'.cell? ⟨B,9,none⟩=some (ag af b.lm)/\w'.cell? ⟨B,10,none⟩=some (ag af b.pl)/\w'.cell? ⟨B,11,none⟩=some (ag af b.pm)/\w'.cell? ⟨B,12,none⟩=some (bq)/\w'.cell? ⟨B,13,none⟩=some (aM)/\w'.cell? ⟨B,14,none⟩=some (aC)/\w'.cell? ⟨C,0,none⟩=some (ae (some ⟨g,off,none⟩) L cap)/\w'.cell? ⟨g,off+j,none⟩=some (ag af n)/\w'.cell? ⟨w.heap.size,0,none⟩=some (ag af ((j:Int)+1))/\w'.cell? ⟨w.heap.size,1,none⟩=some (ag af lo)/\w'.cell? ⟨w.heap.size,2,none⟩=some (ag af hi))/\fV (w.heap.size+1) (w.alloc (au #[ag af ((j:Int)+1),ag af lo,ag af hi] 81)) w':=
 UH h hC SC hg hn (hb.trans (hb2.mono (by have:=hb.size;simpa using this)))
def JR(b:BB)(hb:b.Ok)(bq aM aC:aj)(lo hi n:Int)(Yx:0<=n/\n<=999)(B C g off L cap j:Nat)(w:ak)(h:w.heap[B]?=some (au (b.cells bq aM aC) 119 (0,0)))(hC:w.cell? ⟨C,0,none⟩=some (ae (some ⟨g,off,none⟩) L cap))(SC:C<w.heap.size)(hg:g<w.heap.size)(hn:w.cell? ⟨g,off+j,none⟩=some (ag af n))(hj:j<L)(hL:L<=1000) :
  bm aq 176 #[aR #[ag af ((j:Int)+1),ag af lo,ag af hi],eX (some ⟨B,0,none⟩),eX (some ⟨C,0,none⟩)] w (Rt w (aI (!aV (b.xg n) lo hi))):=by
 have HK:=ai h;have HC:=ai hC;have HN:=ai hn;have hjj:IntKind.i64.wrap ((j:Int)+1-1)=(j:Int):=by rw[show(j:Int)+1-1=(j:Int) by omega];exact fO _ oM oM
 have hj1:(j:Int)<(L:Int):=oM;have ZW:(j:Int)<=(L:Int):=oM;have hj0:(0:Int)<=(j:Int):=oM;have hjw:IntKind.i64.wrap (j:Int)=(j:Int):=fO _ oM oM;clear h hC hn
 go_enter Tryz.func176,Tryz.ntmps176
 go_wp2
 go_region_held3 (fun w'=>(w'.cell? ⟨B,0,none⟩=some (ag af b.room)/\w'.cell? ⟨B,1,none⟩=some (ag af b.depth)/\w'.cell? ⟨B,2,none⟩=some (ag af b.least)/\w'.cell? ⟨B,3,none⟩=some (ag af b.minutes)/\w'.cell? ⟨B,4,none⟩=some (ag af b.bS)/\w'.cell? ⟨B,5,none⟩=some (ag af b.iU)/\w'.cell? ⟨B,6,none⟩=some (ag af b.eI)/\w'.cell? ⟨B,7,none⟩=some (ag af b.iO)/\w'.cell? ⟨B,8,none⟩=some (ag af b.ll)/\w'.cell? ⟨B,9,none⟩=some (ag af b.lm)/\w'.cell? ⟨B,10,none⟩=some (ag af b.pl)/\w'.cell? ⟨B,11,none⟩=some (ag af b.pm)/\w'.cell? ⟨B,12,none⟩=some (bq)/\w'.cell? ⟨B,13,none⟩=some (aM)/\w'.cell? ⟨B,14,none⟩=some (aC)/\w'.cell? ⟨C,0,none⟩=some (ae (some ⟨g,off,none⟩) L cap)/\w'.cell? ⟨g,off+j,none⟩=some (ag af n)/\w'.cell? ⟨w.heap.size,0,none⟩=some (ag af ((j:Int)+1))/\w'.cell? ⟨w.heap.size,1,none⟩=some (ag af lo)/\w'.cell? ⟨w.heap.size,2,none⟩=some (ag af hi))/\fV (w.heap.size+1) (w.alloc (au #[ag af ((j:Int)+1),ag af lo,ag af hi] 81)) w')
  (first|exact UH HK.out HC.out SC hg HN.out (aB _ _).drew|exact UH HK.out HC.out SC hg HN.out (aB _ _)|exact E4 HK.out HC.out SC hg HN.out (And.right (by assumption)) (by assumption)|exact E4 HK.out HC.out SC hg HN.out (And.right (by assumption)) (aB _ _))
  (first|(go_at_call 139;refine(Ko b hb bq aM aC n Yx _).mono ?_;rintro e w1 ⟨rfl,hb1⟩)|(go_at_call 138;refine(qQ _ _ _ _).mono ?_;rintro e w1 ⟨rfl,rfl⟩))
 rename _/\_=>hS;have hBw:=hS.2;clear hS;go_wp2
 go_ret
 exact⟨rfl,dx.trans (hBw.mono oM)⟩
def sA(b:BB)(used:Int)(p:Nat)(ms:List Mk):Bool:=ms.all fun m=>aV (b.xg (b.rj used p m.minute.toNat)) m.lo m.hi
def jV(b:BB)(used:Int)(p:Nat):List Mk->Nat->Int
 |[],_=>-1
 |m::r,k=>if aV (b.xg (b.rj used p m.minute.toNat)) m.lo m.hi then jV b used p r (k+1) else k
def GY(b:BB)(used:Int)(p:Nat)(xs:List Mk)(k:Nat)(hk:k<xs.length):jV b used p (xs.drop k) k=if aV (b.xg (b.rj used p xs[k].minute.toNat)) xs[k].lo xs[k].hi then jV b used p (xs.drop (k+1)) (k+1) else(k:Int):=by
 rw[List.drop_eq_getElem_cons hk];rfl
def JS(b:BB)(used:Int)(p:Nat)(xs:List Mk):jV b used p (xs.drop xs.length) xs.length = -1:=by simp[jV]
def JU(b:BB)(used:Int)(p:Nat):∀(xs:List Mk) (k:Nat),decide (0<=jV b used p xs k) = !sA b used p xs:=by
 intro xs
 induction xs with
 |nil=>intro k;simp[jV,sA]
 |cons n r ih=>
  intro k;simp only[jV,sA,dX];split
  .rename_i h;rw[h,Bool.true_and];exact ih (k+1)
  rename_i h;simp at h;simp[h]
def GZ(b:BB)(hb:b.Ok)(bq aM aC:aj)(ms:List Mk)(hm:lI b ms)(used:Int)(hu:0<=used)(p:Nat)(v:aj)(B C g off L cap:Nat)(w:ak)(hv:Reads w v ms.length (dV ms))
  (lJ:w.heap[B]?=some (au (b.cells bq aM aC) 119 (0,0))) (hC:w.cell? ⟨C,0,none⟩=some (ae (some ⟨g,off,none⟩) L cap)) (SC:C<w.heap.size) (hg:g<w.heap.size) (hL:L=b.minutes.toNat) (hc:∀j u,((b.js used p b.minutes.toNat).map (aD af))[j]?=some u->w.cell? ⟨g,off+j,none⟩=some u) :
  bm aq 182 #[v,.func (.func 176) #[] #[eX (some ⟨B,0,none⟩),eX (some ⟨C,0,none⟩)]] w (Rt w (ag af (jV b used p ms 0))):=by
 have HK:=ai lJ;have HC:=ai hC;have HP:=ai hc;have HM:=ai hm;have xu:=hb.minutes;have Tx:=hm.len;clear lJ hC hc hm;rcases hv with⟨rfl,hn,hx0⟩|⟨gm,om,cm,rfl,hn,YD,hcm⟩
 .obtain rfl:ms=[]:=a8 hn;clear hx0 hn
  go_enter Tryz.func182,Tryz.ntmps182
  go_wp2
  go_loopw [8] (fun i wr=>i=ag af 0/\Bw w wr) (fun _ _=>0)
  case atStart=>exact⟨rfl,aB _ _⟩
  case round=>
   obtain⟨rfl,eh⟩:=hrel;go_wp2
   go_ret
   exact⟨rfl,eh⟩
 have QV:=ai hcm;clear hcm;generalize hM:ms.length=M at *;have HL:=ai hM;clear hM
 go_enter Tryz.func182,Tryz.ntmps182
 go_wp2
 go_loopw [5,8] (fun _ i wr=>∃k:Nat,k<=M/\i=ag af k/\jV b used p ms 0=jV b used p (ms.drop k) k/\Bw w wr) (fun _ i _=>M-(intOf i).toNat)
 case atStart=>exact⟨0,oM,rfl,rfl,aB _ _⟩
 case round=>
  obtain⟨k,hk,rfl,lK,eh⟩:=hrel;have hB1:=eh.size
  by_cases hlt:k<M
  .have jY:k<ms.length:=by rw[HL.out];exact hlt
   obtain⟨y0,y1,y2⟩:=xd (w:=wr) (fun j u hj=>(eh.cell (p:=⟨gm,om+j,none⟩) YD).trans (QV.out j u hj)) k jY;have hx:=HM.out.mem ms[k] (List.getElem_mem jY);have hst:=GY b used p ms k jY;rw[hst] at lK;clear hst;generalize ms[k]=x at *;obtain⟨mi,lo,hi⟩:=x;obtain⟨j,rfl⟩:∃j:Nat,mi=(j:Int)+1:=⟨(mi-1).toNat,by have:=hx.1;simp at this;omega⟩
   have hjm:j<b.minutes.toNat:=by have:=hx.2.1;simp at this;omega
   have Vp:=b.BU hb hu p (j+1);have hcell:=HP.out j (ag af (b.rj used p (j+1))) (by simp[BB.js,hjm]);have hT:=JR b hb bq aM aC lo hi (b.rj used p (j+1)) oM B C g off L cap j wr ((eh.block B (ah.1 HK.out).1).trans HK.out) ((eh.cell (p:=⟨C,0,none⟩) SC).trans HC.out) oM oM ((eh.cell (p:=⟨g,off+j,none⟩) hg).trans hcell) oM oM;rw[show(Mk.minute ⟨(j:Int)+1,lo,hi⟩).toNat=j+1 by show((j:Int)+1).toNat=j+1;omega] at lK;simp only[] at y0 y1 y2 lK;clear hx Vp hcell hjm;cases hd:aV (b.xg (b.rj used p (j+1))) lo hi
   .rw[hd] at hT;simp only[hd,bG,if_false] at lK;have HB:=ai lK;have HT:=ai hT;clear lK hT hd
    go_wp2_with (go_at_call 176;refine HT.out.mono ?_;rintro e w2 ⟨rfl,hb2⟩)
    go_ret
    exact⟨gR HB.out.symm,eh.trans (hb2.mono hB1)⟩
   rw[hd] at hT;simp only[hd,if_true] at lK;have HB:=ai lK;have HT:=ai hT;clear lK hT hd
   go_wp2_with (go_at_call 176;refine HT.out.mono ?_;rintro e w2 ⟨rfl,hb2⟩)
   go_roundw
   case rel=>exact⟨k+1,oM,by go_num,HB.out,eh.trans (hb2.mono hB1)⟩
   case measure=>simp[intOf];omega
  obtain rfl:k=M:=oM;have e1:jV b used p ms 0 = -1:=by rw[lK,<-HL.out];exact JS b used p ms
  have HE:=ai e1;clear e1 lK;go_wp2
  go_ret
  exact⟨gR HE.out.symm,eh⟩
def BD(b:BB)(hb:b.Ok)(bq aM aC:aj)(ms:List Mk)(hm:lI b ms)(used:Int)(hu:0<=used)(p:Nat)(v:aj)(B C g off L cap:Nat)(w:ak)(hv:Reads w v ms.length (dV ms))
  (lJ:w.heap[B]?=some (au (b.cells bq aM aC) 119 (0,0))) (hC:w.cell? ⟨C,0,none⟩=some (ae (some ⟨g,off,none⟩) L cap)) (SC:C<w.heap.size) (hg:g<w.heap.size) (hL:L=b.minutes.toNat) (hc:∀j u,((b.js used p b.minutes.toNat).map (aD af))[j]?=some u->w.cell? ⟨g,off+j,none⟩=some u) :
  bm aq 175 #[v,.func (.func 176) #[] #[eX (some ⟨B,0,none⟩),eX (some ⟨C,0,none⟩)]] w (Rt w (aI (!sA b used p ms))):=by
 have hI:=GZ b hb bq aM aC ms hm used hu p v B C g off L cap w hv lJ hC SC hg hL hc;have hA:=JU b used p ms 0;generalize jV b used p ms 0=q at *;have HI:=ai hI;have HA:=ai hA;clear hI hv lJ hC hc hA
 go_enter Tryz.func175,Tryz.ntmps175
 go_wp2_with (go_at_call 182;refine HI.out.mono ?_;rintro e w2 ⟨rfl,hb2⟩)
 go_ret
 exact⟨qI HA.out,hb2⟩
def EI(b:BB)(hb:b.Ok)(bq aM aC:aj)(a:dS)(ha:a.Ok)(p:Nat)(hp:p<512)(w:ak) :
  bm aq 114 #[aR (b.cells bq aM aC),aR a.cells,ag af p] w fun e w'=>∃g cap,∃cur:Array aj,e=aY (ae (some ⟨g,0,none⟩) b.minutes.toNat cap)/\w.heap.size<=g/\g<w'.heap.size/\b.minutes.toNat<=cap/\
   w'.heap[g]?=some (au cur 3 (0,0))/\(∀(j:Nat) (u:aj),((b.js (b.bS+a.used) p b.minutes.toNat).map (aD af))[j]?=some u->cur[j]?=some u)/\Bw w w':=by
 refine(zH b hb bq aM aC a ha p hp w).mono ?_;rintro e w1 ⟨v,rfl,hown,hb1⟩;have hm:=hb.minutes;rcases hown.2 with⟨h0,h1⟩|⟨g,cap,cur,rfl,h2,h3,h4,h5,h6,h7⟩
 .have:=(h1:b.minutes.toNat=0)
  omega
 refine⟨g,cap,cur,rfl,h2,(ah.1 h3).1,h4,h3,fun j u hj=>?_,hb1⟩;rw[<-h7,List.getElem?_take] at hj;split at hj
 .simpa using hj
 cases hj
def aK{W:ak}{B:Nat}{cs:Array aj}{t:a7}(h:W.heap[B]?=some (au cs t (0,0)))(i:Nat)(u:aj)(hi:cs[i]?=some u):W.cell? ⟨B,i,none⟩=some u:=by
 simp[dP,h,hi]
def cZ{W:ak}{B:Nat}{cs:Array aj}{t:a7}(h:W.heap[B]?=some (au cs t (0,0)))(i:Nat):W.frozen? ⟨B,i,none⟩=false:=by
 simp[World.frozen?,h]
def Co{W:ak}{k:Nat}{z v:aj}{t:a7}(h:W.heap[k]?=some (au #[z] t (0,0))):(W.setCell ⟨k,0,none⟩ v).heap[k]?=some (au #[v] t (0,0)):=by
 obtain⟨hk,h⟩:=ah.1 h;simp[kz,hk,h,Ck]
structure Two(w:ak)(A:Array aj)(tA:a7)(B:Array aj)(tB:a7)(w':ak):Prop where
 one:w'.heap[w.heap.size]?=some (au A tA (0,0))
 two:w'.heap[w.heap.size+1]?=some (au B tB (0,0))
 below:Bw w w'
 size:w.heap.size+2<=w'.heap.size
def Two.mk'(w:ak)(A:Array aj)(tA:a7)(B:Array aj)(tB:a7):Two w A tA B tB ((w.alloc (au A tA)).alloc (au B tB)).drew:=
 ⟨(aZ _ _ _ sM).trans (az w _),by have:=az (w.alloc (au A tA)) (au B tB);rwa [dY] at this,
  (((aB _ w).alloc (aO _) _).alloc sM _).drew,by show _<=((w.alloc _).alloc _).heap.size;simp⟩
def Two.next{w:ak}{A:Array aj}{tA:a7}{B:Array aj}{tB:a7}{w1 w2:ak}(h:Two w A tA B tB w1)(hb:Bw w1 w2):Two w A tA B tB w2:=by
 have hs:=h.size;exact⟨(hb.block _ oM).trans h.one,(hb.block _ oM).trans h.two,h.below.trans (hb.mono oM),aF hs hb.size⟩
def Two.store{w:ak}{A:Array aj}{tA:a7}{B:Array aj}{tB:a7}{w1:ak}(h:Two w A tA B tB w1){k i:Nat}(hk:w.heap.size+2<=k)(u:aj):Two w A tA B tB (w1.setCell ⟨k,i,none⟩ u):=
 ⟨(bu _ _ _ _ (by show _≠k;omega)).trans h.one,(bu _ _ _ _ (by show _≠k;omega)).trans h.two,h.below.setCell (by show _<=k;omega) u,by simpa using h.size⟩
def E3(b:BB)(hb:b.Ok)(bq aM aC:aj)(ss:List Int)(hs:fM b ss)(ms:List Mk)(hm:lI b ms)(a:dS)(ha:a.Ok)(w:ak)(ZG:Reads w aM ss.length (ss.map (aD af)))(ZH:Reads w aC ms.length (dV ms)) :
  bm aq 143 #[aR (b.cells bq aM aC),aR a.cells] w (Rt w (aI (sA b (b.bS+a.used) (bJ ss) ms))):=by
 have xu:=hb.minutes;have nQ:∀s∈ss,1<=s/\s<=8:=fun s h=>by have:=hs.mem s h;omega
 have DW:bJ ss<512:=mM ss nQ
 go_enter Tryz.func143,Tryz.ntmps143
 go_wp2
 refine cy kQ [
 pV (aR (b.cells bq aM aC)),
  pV (aR a.cells),
  pV (pv w.heap.size 0),
  pV (pv w.heap.size 13),
  pV (aM),
  pV (ag af (bJ ss)),
  fun v ds w9=>∃g cap,∃cur:Array aj,v=ae (some ⟨g,0,none⟩) b.minutes.toNat cap/\w.heap.size+2<=g/\b.minutes.toNat<=cap/\w9.heap[g]?=some (au cur 3 (0,0))/\∀(j:Nat) (u:aj),((b.js (b.bS+a.used) (bJ ss) b.minutes.toNat).map (aD af))[j]?=some u->cur[j]?=some u,
  fun v ds w9=>∃k z,v=pv k 0/\w.heap.size+2<=k/\w9.heap[k]?=some (au #[z] 25 (0,0)),
  fun v ds w9=>∃k z,ds[0]?=some (pv k 0)/\ds[1]?=some z/\w9.heap[k]?=some (au #[z] 25 (0,0))]
  (Two w (b.cells bq aM aC) 119 a.cells 134) [(2,pv w.heap.size 0),(3,pv (w.heap.size+1) 0)] kQ ?rst (fun w1 w2 h hb=>h.next hb) (Two.mk' _ _ _ _ _) ⟨rfl,rfl,trivial⟩ ?reach ?rfin
 case rst=>
  refine⟨sV,sV,sV,sV,sV,sV,?_,?_,?_,trivial⟩
  .rintro v ds w1 w2 hS ⟨g,cap,cur,h1,h2,h3,h4,h5⟩ hb;exact⟨g,cap,cur,h1,h2,h3,(hb.block g (ah.1 h4).1).trans h4,h5⟩
  .rintro v ds w1 w2 hS ⟨k,z,h1,h2,h3⟩ hb;exact⟨k,z,h1,h2,(hb.block k (ah.1 h3).1).trans h3⟩
  rintro v ds w1 w2 hS ⟨k,z,h1,h2,h3⟩ hb;exact⟨k,z,h1,h2,(hb.block k (ah.1 h3).1).trans h3⟩
 case reach=>
  refine⟨?_,?_,?_,?_,?_,?_,?_,?_,?_,trivial⟩<;>rintro ev w1 hS hc hg hf ⟨b2,b3,-⟩ hd
  .have x0:=aK hS.one 0 _ rfl;have x1:=aK hS.one 1 _ rfl;have x2:=aK hS.one 2 _ rfl;have x3:=aK hS.one 3 _ rfl;have x4:=aK hS.one 4 _ rfl;have x5:=aK hS.one 5 _ rfl;have x6:=aK hS.one 6 _ rfl;have x7:=aK hS.one 7 _ rfl;have x8:=aK hS.one 8 _ rfl;have x9:=aK hS.one 9 _ rfl;have qD:=aK hS.one 10 _ rfl;have qC:=aK hS.one 11 _ rfl;have rH:=aK hS.one 12 _ rfl;have rz:=aK hS.one 13 _ rfl;have rB:=aK hS.one 14 _ rfl;exact tV
  .have y0:=aK hS.two 0 _ rfl;have y1:=aK hS.two 1 _ rfl;have y2:=aK hS.two 2 _ rfl;have y3:=aK hS.two 3 _ rfl;exact tV
  .exact tV
  .have d2:ev (.tmp 8)=_:=hd.1 rfl;exact tV
  .have d3:ev (.tmp 9)=_:=hd.1 rfl;have rz:=aK hS.one 13 _ rfl;exact tV
  .have d4:ev (.tmp 10)=_:=hd.1 rfl;refine yq (args:=#[aM]) (kH ss nQ aM _ (ZG.below hS.below)) ?_ fun _=>rfl;go_simp
  .have d0:ev (.tmp 6)=_:=hd.1 rfl;have d1:ev (.tmp 7)=_:=hd.2.1 rfl;have d5:ev (.tmp 11)=_:=hd.2.2.1 rfl;refine Lag.Yields.call (f:=114) (args:=#[aR (b.cells bq aM aC),aR a.cells,ag af (bJ ss)]) ?_ (EI b hb bq aM aC a ha (bJ ss) DW _) ?_
   .go_simp
   rintro e w2 ⟨g,cap,cur,rfl,h1,h2,h3,h4,h5,h6⟩;exact⟨_,rfl,⟨g,cap,cur,rfl,aF hS.size h1,h3,h4,h5⟩,cJ h6⟩
  .refine Lag.Yields.value (v:=pv w1.heap.size 0) (w':=w1.alloc (au #[ae none 0 0] 25)) ?_ ⟨⟨_,_,rfl,hS.size,az _ _⟩,cJ dx⟩;go_simp
  obtain⟨k,z,e5,hk,hkb⟩:=hd.1 rfl;replace e5:ev (.tmp 5)=_:=e5;obtain⟨g,cap,cur,TD,hg,hgc,hgb,qU⟩:=hd.2.1 rfl;replace TD:ev (.tmp 12)=_:=TD;have DZ:g≠k:=by rintro rfl;rw[hgb] at hkb;cases hkb
  have c1:=aK hkb 0 _ rfl;have c2:=cZ hkb 0;refine Lag.Yields.skip (w':=w1.setCell ⟨k,0,none⟩ (ae (some ⟨g,0,none⟩) b.minutes.toNat cap)) ?_ ⟨⟨k,_,congrArg some e5,congrArg some TD,Co hkb⟩,.inr ⟨hS.store hk _,?_⟩⟩
  .go_simp
  .intro j u ds hj hp
   match j,hp with
   |0,hp|1,hp|2,hp|3,hp|4,hp|5,hp=>exact hp
   |6,⟨g',cap',cur',h1,h2,h3,h4,h5⟩=>exact⟨g',cap',cur',h1,h2,h3,(bu _ _ _ _ (by rintro rfl;rw[h4] at hkb;cases hkb)).trans h4,h5⟩
   |7,⟨k',z',h1,h2,h3⟩=>
    by_cases s5:k'=k
    .subst s5;exact⟨k',_,h1,h2,Co h3⟩
    exact⟨k',z',h1,h2,(bu _ _ _ _ s5).trans h3⟩
   |8,_=>exact(hj rfl).elim
   |j+9,_=>trivial
 case rfin=>
  intro a2 w2 hR;have hS:=hR.s;have e6:∃g cap,∃cur:Array aj,(a2.tmps.getD 12 aw)=ae (some ⟨g,0,none⟩) b.minutes.toNat cap/\w.heap.size+2<=g/\b.minutes.toNat<=cap/\w2.heap[g]?=some (au cur 3 (0,0))/\∀(j:Nat) (u:aj),((b.js (b.bS+a.used) (bJ ss) b.minutes.toNat).map (aD af))[j]?=some u->cur[j]?=some u:=hR.val 6;have e7:∃k z,(a2.tmps.getD 5 aw)=pv k 0/\w.heap.size+2<=k/\w2.heap[k]?=some (au #[z] 25 (0,0)):=hR.val 7;have e8:∃k z,([a2.tmps.getD 5 aw,a2.tmps.getD 12 aw,a2.tmps.getD 12 aw,a2.tmps.getD 6 aw,a2.tmps.getD 7 aw,a2.tmps.getD 8 aw,a2.tmps.getD 9 aw,a2.tmps.getD 10 aw,a2.tmps.getD 11 aw,a2.tmps.getD 12 aw,a2.tmps.getD 5 aw]:List aj)[0]?=some (pv k 0)/\([a2.tmps.getD 5 aw,a2.tmps.getD 12 aw,a2.tmps.getD 12 aw,a2.tmps.getD 6 aw,a2.tmps.getD 7 aw,a2.tmps.getD 8 aw,a2.tmps.getD 9 aw,a2.tmps.getD 10 aw,a2.tmps.getD 11 aw,a2.tmps.getD 12 aw,a2.tmps.getD 5 aw]:List aj)[1]?=some z/\w2.heap[k]?=some (au #[z] 25 (0,0)):=hR.val 8;have k0:a2.tmps.getD 0 aw=aR (b.cells bq aM aC):=hR.kept kQ;have k1:a2.tmps.getD 1 aw=aR a.cells:=hR.kept kQ;have k2:a2.tmps.getD 2 aw=pv w.heap.size 0:=hR.kept kQ;have k3:a2.tmps.getD 3 aw=pv (w.heap.size+1) 0:=hR.kept kQ;have k4:a2.tmps.getD 4 aw=aI false:=hR.kept kQ;have ha_:a2=⟨#[a2.tmps.getD 0 aw,a2.tmps.getD 1 aw,a2.tmps.getD 2 aw,a2.tmps.getD 3 aw,a2.tmps.getD 4 aw,a2.tmps.getD 5 aw,a2.tmps.getD 6 aw,a2.tmps.getD 7 aw,a2.tmps.getD 8 aw,a2.tmps.getD 9 aw,a2.tmps.getD 10 aw,a2.tmps.getD 11 aw,a2.tmps.getD 12 aw,a2.tmps.getD 13 aw,a2.tmps.getD 14 aw,a2.tmps.getD 15 aw,a2.tmps.getD 16 aw,a2.tmps.getD 17 aw,a2.tmps.getD 18 aw],[]⟩:=hR.act;clear hR;obtain⟨k,z,h5,hk,hkb⟩:=e7;obtain⟨g,cap,cur,YM,hg,hgc,hgb,qU⟩:=e6;obtain⟨k',z',h5',afP,hkb'⟩:=e8;have q1:k'=k:=by have:=h5.symm.trans (bp h5');simpa using this.symm
  have q2:z'=ae (some ⟨g,0,none⟩) b.minutes.toNat cap:=(bp afP).symm.trans YM;subst q1;subst q2;have aeR:=aK hS.one 14 _ rfl;have alZ:=hS.one;have hk2:=aK hkb' 0 _ rfl
  have hcon:=BD b hb bq aM aC ms hm (b.bS+a.used) (by have:=hb.bS;have:=ha.leak;have:=ha.m0;have:=ha.m1;have:=ha.m2;simp only[dS.used];omega) (bJ ss) aC w.heap.size k' g 0 b.minutes.toNat cap w2 (ZH.below hS.below) hS.one (aK hkb' 0 _ rfl) (ah.1 hkb').1 (ah.1 hgb).1 rfl
   (fun j u hj=>aK hgb _ _ (by rw[dh];exact qU j u hj))
  have sH:=hS.below;rw[k0,k1,k2,k3,k4,h5] at ha_;clear qU hS ZG ZH h5' afP YM h5 k0 k1 k2 k3 k4 hgb hkb hkb';generalize a2.tmps.getD 6 aw=t6,a2.tmps.getD 7 aw=t7,a2.tmps.getD 8 aw=t8,a2.tmps.getD 9 aw=t9,a2.tmps.getD 10 aw=t10,a2.tmps.getD 11 aw=t11,a2.tmps.getD 12 aw=t12,a2.tmps.getD 13 aw=t13,a2.tmps.getD 14 aw=t14,a2.tmps.getD 15 aw=t15,a2.tmps.getD 16 aw=t16,a2.tmps.getD 17 aw=t17,a2.tmps.getD 18 aw=t18 at ha_;subst ha_;have HC:=ai hcon;clear hcon
  go_wp2_with (first|(go_at_call 175;refine HC.out.mono ?_;clear HC;rintro e w3 ⟨rfl,hb3⟩))
  go_ret
  exact⟨sM,sH.trans (hb3.mono sH.size)⟩
end Go.Proofs.YtffladgmkiimjaaGreatDoor
namespace Go.Lag
open Go.RowKit
structure Step(X X':Nat->Prop)(W W':ak):Prop where
 os:W'.os=W.os
 tape:W'.tape=W.tape
 output:W'.output=W.output
 size:W.heap.size<=W'.heap.size
 old:∀k,k<W.heap.size->X' k->X k
 same:∀k,k<W.heap.size->¬X k->W'.heap[k]?=W.heap[k]?
def Step.refl(X:Nat->Prop)(W:ak):Step X X W W:=⟨rfl,rfl,rfl,aO _,fun _ _ h=>h,fun _ _ _=>rfl⟩
def Step.trans{X Y Z:Nat->Prop}{A B C:ak}(h:Step X Y A B)(k:Step Y Z B C):Step X Z A C:=
 ⟨k.os.trans h.os,k.tape.trans h.tape,k.output.trans h.output,aF h.size k.size,
  fun i hi hz=>h.old i hi (k.old i (bw hi h.size) hz),
  fun i hi hx=>(k.same i (bw hi h.size) (fun hy=>hx (h.old i hi hy))).trans (h.same i hi hx)⟩
def Step.of_below{X:Nat->Prop}{W W':ak}(h:Bw W W'):Step X X W W':=
 ⟨h.os,h.tape,h.output,h.size,fun _ _ h=>h,fun k hk _=>h.block k hk⟩
def Step.below{X X':Nat->Prop}{W W':ak}(h:Step X X' W W'){n:Nat}(hn:n<=W.heap.size)(hx:∀k,k<n->¬X k):fV n W W':=
 ⟨h.os,h.tape,h.output,h.size,fun k hk=>h.same k (bw hk hn) (hx k hk)⟩
def Abides{β:Type}(J:β->(Nat->Prop)->ak->Prop):Prop:=
 ∀s X W W',J s X W->(∀k,X k->W'.heap[k]?=W.heap[k]?)->J s X W'
def Dh{β:Type}(J:β->(Nat->Prop)->ak->Prop):Prop:=∀s X W,J s X W->∀k,X k->k<W.heap.size
def acS{α:Type}(P:aN)(g:Nat)(la:Array aj)(encs:α->Array aj)(all:List α)(w:ak):Prop:=
 ∀(l:Nat) (J Jx:List α->(Nat->Prop)->ak->Prop) (X:Nat->Prop) (W:ak),
  Bw w W->(∀k,X k->w.heap.size<=k/\k<W.heap.size)->Abides J->Abides Jx->Dh J->Dh Jx->
  (∀m pre x X1 W1,J pre X1 W1->(∀k,X1 k->w.heap.size<=k)->pre++[x] <+: all->YieldAt Fence.wide m P l (encs x) W1 fun e W'=>∃X2,Step X1 X2 W1 W'/\
   ((e=aY (aI true)/\J (pre++[x]) X2 W')\/(e=aY (aI false)/\Jx (pre++[x]) X2 W')))->
  J [] X W->
  bm P g (la++#[.func (.yield l) #[] #[]]) W fun e W'=>(∃v,e=aY v)/\∃X2,Step X X2 W W'/\(J all X2 W'\/∃pre,Jx pre X2 W')
def adU{α:Type}(I:List α->(Nat->Prop)->ak->Prop)(Ix:Code->List α->(Nat->Prop)->ak->Prop)(X:Nat->Prop)(xs:List α)(W:ak):Exit->j6->ak->Prop
 |.normal,_,W'=>∃X2,Step X X2 W W'/\I xs X2 W'
 |.ret,_,W'=>∃X2,Step X X2 W W'/\Ix .ret xs X2 W'
 |.exit id,_,W'=>∃X2,Step X X2 W W'/\Ix (.exit id) xs X2 W'
 |.goto t,_,W'=>∃X2,Step X X2 W W'/\Ix (.goto t) xs X2 W'
 |.panic _,_,_=>False
 |.outgrown,_,_=>False
def tq{α:Type}{P:aN}{n:Nat}{g:bI}{ps:Array jR}{assign body:Code}{Q:Exit->j6->ak->Prop}{a:j6}{w:ak}
  {gf:Nat} {la:Array aj} (hg:a.eval g=.func (.func gf) la #[]) (eg:∀args w,(callFunc gf args).run P w=.ok (.enter gf args) w)
  {encs:α->Array aj} {all:List α} {w0:ak} (hseq:acS P gf la encs all w0) (hb0:Bw w0 w) (Yu:∀x,(encs x).size=ps.size)
  (I:List α->(Nat->Prop)->ak->Prop) (Ix:Code->List α->(Nat->Prop)->ak->Prop) (hI:Abides I) (hIx:∀c,Abides (Ix c)) (hIb:Dh I) (ajD:∀c,Dh (Ix c))
  (X:Nat->Prop) (hX:∀k,X k->w0.heap.size<=k/\k<w.heap.size) (h0:I [] X w)
  (A:List α->α->j6->(Nat->Prop)->ak->Prop) (hA:∀pre x,Abides (A pre x))
  (YJ:∀(l m:Nat) (pre:List α) (x:α) (X1:Nat->Prop) (W:ak) (K:j6->ak->Prop),I pre X1 W->(∀k,X1 k->w0.heap.size<=k)->pre++[x] <+: all->(∀a' X2 W',Step X1 X2 W W'->A pre x a' X2 W'->K a' W')->
   assign.wpIn (Fence.wide.inRound l) m P (Exit.then K (fun _ _ _=>False)) { tmps:=(ps.zip (encs x)).foldl (fun t (p,v)=>t.setIfInBounds p v) a.tmps,defers:=[] } W)
  (afw:∀(l m:Nat) (pre:List α) (x:α) (a':j6) (X1:Nat->Prop) (W:ak),A pre x a' X1 W->(∀k,X1 k->w0.heap.size<=k)->pre++[x] <+: all->body.wpIn (Fence.wide.inRound l) m P (adU I Ix X1 (pre++[x]) W) a' W)
  (hdone:∀(D:Nat) (X2:Nat->Prop) (W:ak),w.heap.size<=D->¬X2 D->Step X X2 w W->I all X2 W->W.heap[D]?=some (.deferred (some []))->Q .normal { a with defers:={ target:=.collected D,args:=#[] }::a.defers } W)
  (CU:∀(D:Nat) (c:Code) (pre:List α) (X2:Nat->Prop) (W:ak),w.heap.size<=D->¬X2 D->Step X X2 w W->Ix c pre X2 W->W.heap[D]?=some (.deferred (some []))->c.wpIn Fence.wide n P Q { a with defers:={ target:=.collected D,args:=#[] }::a.defers } W) :
  (Code.rangeFunc g ps assign body).wpIn Fence.wide n P Q a w:=by
 refine wpIn_rangeFunc ?_;intro fn hfn;rw[show Fence.wide.round=none from rfl];obtain⟨rec,J6⟩:∃rec:LoopState->Option Code->Loop,rec=fun st pe=>{ state:=st,pending:=pe,fn,tmps:=a.tmps,params:=ps,assign,body,defers:=w.heap.size }:=⟨_,rfl⟩
 obtain⟨W1,hW1⟩:∃W1,(w.alloc (.deferred (some []))).alloc (.loop (rec .ready none))=W1:=⟨_,rfl⟩
 have hL1:W1.heap[w.heap.size+1]?=some (.loop (rec .ready none)):=by
  rw[<-hW1];have:=az (w.alloc (.deferred (some []))) (.loop (rec .ready none));rwa [dY] at this
 have hK1:W1.heap[w.heap.size]?=some (.deferred (some [])):=by
  rw[<-hW1];exact(aZ _ _ _ (by simp)).trans (az w _)
 have sG:Bw w W1:=by rw[<-hW1];exact((aB _ w).alloc (aO _) _).alloc (by simp) _
 have hs1:W1.heap.size=w.heap.size+2:=by rw[<-hW1];simp
 have hI1:I [] X W1:=hI _ _ _ _ h0 (fun k hk=>sG.block k (hX k hk).2);have hb1:Bw w0 W1:=hb0.trans (sG.mono hb0.size)
 refine⟨w.heap.size+1,[{ target:=.collected w.heap.size,args:=#[] }],W1,{ target:=.fn (.func gf) #[],args:=la++#[.func (.yield (w.heap.size+1)) #[] #[]] },W1,gf,
  la++#[.func (.yield (w.heap.size+1)) #[] #[]],W1,?_,?_,?_,?_,(fun h=>by cases h),?_⟩
 .rw[<-hW1,J6];exact run_enterLoop_outer _ _ _ _ _
 .simp only[B6,hg];simp[go_sem]
 .intro f' hf';trivial
 .simp[invoke,go_sem,eg]
 rw[callsIn_wide]
 refine(hseq (w.heap.size+1)
  (fun pre Y W=>∃Z:Nat->Prop,Y=(fun k=>Z k\/k=w.heap.size\/k=w.heap.size+1)/\(∀k,Z k->k≠w.heap.size/\k≠w.heap.size+1)/\I pre Z W/\W.heap[w.heap.size+1]?=some (.loop (rec .ready none))/\W.heap[w.heap.size]?=some (.deferred (some [])))
  (fun pre Y W=>∃(Z:Nat->Prop) (c:Code),Y=(fun k=>Z k\/k=w.heap.size\/k=w.heap.size+1)/\(∀k,Z k->k≠w.heap.size/\k≠w.heap.size+1)/\Ix c pre Z W/\W.heap[w.heap.size+1]?=some (.loop (rec .done (some c)))/\W.heap[w.heap.size]?=some (.deferred (some [])))
  (fun k=>X k\/k=w.heap.size\/k=w.heap.size+1) W1 hb1 ?_ ?_ ?_ ?_ ?_ ?_ ?_).mono ?_
 .rintro k (hk|rfl|rfl)
  .have:=hX k hk;exact⟨this.1,by omega⟩
  .have:=hb0.size;exact⟨this,by omega⟩
  have:=hb0.size;exact⟨by omega,by omega⟩
 .rintro pre Y W W' ⟨Z,rfl,hz,hi,hl,hk⟩ hs;exact⟨Z,rfl,hz,hI _ _ _ _ hi (fun k h=>hs k (cJ h)),(hs _ (.inr (.inr rfl))).trans hl,(hs _ (.inr (cJ rfl))).trans hk⟩
 .rintro pre Y W W' ⟨Z,c,rfl,hz,hi,hl,hk⟩ hs;exact⟨Z,c,rfl,hz,hIx _ _ _ _ _ hi (fun k h=>hs k (cJ h)),(hs _ (.inr (.inr rfl))).trans hl,(hs _ (.inr (cJ rfl))).trans hk⟩
 .rintro pre Y W ⟨Z,rfl,hz,hi,hl,hk⟩ k (rA|rfl|rfl)
  .exact hIb _ _ _ hi k rA
  .exact(ah.1 hk).1
  exact(ah.1 hl).1
 .rintro pre Y W ⟨Z,c,rfl,hz,hi,hl,hk⟩ k (rA|rfl|rfl)
  .exact ajD _ _ _ _ hi k rA
  .exact(ah.1 hk).1
  exact(ah.1 hl).1
 .rintro m pre x Y W ⟨Z,rfl,hz,hi,hl,hk⟩ hge hpre;have abA:∀k,Z k->w0.heap.size<=k:=fun k h=>hge k (cJ h);have hlt:w.heap.size+1<W.heap.size:=(ah.1 hl).1;have hy:=run_yield (P:=P) (args:=encs x) hl (by rw[J6];exact Yu x);rw[J6] at hy;refine⟨fn,_,assign,body,hy,roundIn_of_wpIn hfn (YJ _ m pre x Z W _ hi abA hpre ?_)⟩;intro a' Z2 W2 hst ha;have hz1:∀k,Z k->k≠w.heap.size/\k≠w.heap.size+1:=hz;have hl1:W2.heap[w.heap.size+1]?=some (.loop (rec .ready none)):=(hst.same _ hlt (fun h=>(hz _ h).2 rfl)).trans hl;have qT:W2.heap[w.heap.size]?=some (.deferred (some [])):=(hst.same _ (by omega) (fun h=>(hz _ h).1 rfl)).trans hk;have hlt2:w.heap.size+1<W2.heap.size:=(ah.1 hl1).1;have hz2:∀k,Z2 k->k≠w.heap.size/\k≠w.heap.size+1:=fun k h=>⟨fun e=>(hz k (hst.old k (by omega) h)).1 e,fun e=>(hz k (hst.old k (by omega) h)).2 e⟩
  refine⟨_,run_beginRound hl1 (by rw[J6]),?_⟩;obtain⟨W3,hW3⟩:∃W3,W2.putObj (w.heap.size+1) (.loop { rec .ready none with state:=.busy })=W3:=⟨_,rfl⟩
  have hl3:W3.heap[w.heap.size+1]?=some (.loop { rec .ready none with state:=.busy }):=by rw[<-hW3];exact World.putObj_heap_same hlt2
  have hk3:W3.heap[w.heap.size]?=some (.deferred (some [])):=by rw[<-hW3];exact(dL (by omega)).trans qT
  have hp3:∀k,k≠w.heap.size+1->W3.heap[k]?=W2.heap[k]?:=fun k h=>by rw[<-hW3];exact dL (by omega)
  have h3s:W3.heap.size=W2.heap.size:=by rw[<-hW3];simp
  have h3o:W3.os=W2.os/\W3.tape=W2.tape/\W3.output=W2.output:=by rw[<-hW3];exact⟨rfl,rfl,rfl⟩
  have ai_:∀k,Z2 k->w0.heap.size<=k:=fun k h=>by
   by_cases hc:k<W.heap.size
   .exact abA k (hst.old k hc h)
   have:=hb0.size;omega
  have ha3:=hA _ _ _ _ _ W3 ha (fun k h=>hp3 k (hz2 k h).2);simp only[hW3];refine wpIn_mono (afw _ m pre x a' Z2 W3 ha3 ai_ hpre) ?_
  have fin:∀(jump:Option Code) (Z4:Nat->Prop) (W4:ak),Step Z2 Z4 W3 W4->
    (Instr.endRound (w.heap.size+1) jump).run P W4=.ok (aI jump.isNone) (W4.putObj (w.heap.size+1) (.loop (rec (if jump.isNone then .ready else .done) jump)))/\
    (∀k,Z4 k->k≠w.heap.size/\k≠w.heap.size+1)/\
    (∀k,Z4 k->(W4.putObj (w.heap.size+1) (.loop (rec (if jump.isNone then .ready else .done) jump))).heap[k]?=W4.heap[k]?)/\
    (W4.putObj (w.heap.size+1) (.loop (rec (if jump.isNone then .ready else .done) jump))).heap[w.heap.size+1]?=some (.loop (rec (if jump.isNone then .ready else .done) jump))/\
    (W4.putObj (w.heap.size+1) (.loop (rec (if jump.isNone then .ready else .done) jump))).heap[w.heap.size]?=some (.deferred (some []))/\
    Step (fun k=>Z k\/k=w.heap.size\/k=w.heap.size+1) (fun k=>Z4 k\/k=w.heap.size\/k=w.heap.size+1) W (W4.putObj (w.heap.size+1) (.loop (rec (if jump.isNone then .ready else .done) jump))):=fun jump Z4 W4 h4=>by
   have hl4:W4.heap[w.heap.size+1]?=some (.loop { rec .ready none with state:=.busy }):=(h4.same _ (by omega) (fun h=>(hz2 _ h).2 rfl)).trans hl3;have hk4:W4.heap[w.heap.size]?=some (.deferred (some [])):=(h4.same _ (by omega) (fun h=>(hz2 _ h).1 rfl)).trans hk3;have Xd:∀k,Z4 k->k≠w.heap.size/\k≠w.heap.size+1:=fun k h=>⟨fun e=>(hz2 k (h4.old k (by omega) h)).1 e,fun e=>(hz2 k (h4.old k (by omega) h)).2 e⟩
   have:=run_endRound (P:=P) jump hl4;have h4s:=h4.size;have nQ:=hst.size
   refine⟨by rw[J6] at this ⊢;exact this,Xd,fun k h=>dL (fun e=>(Xd k h).2 (by omega)),World.putObj_heap_same (ah.1 hl4).1,(dL (by omega)).trans hk4,
    ⟨h4.os.trans (h3o.1.trans hst.os),h4.tape.trans (h3o.2.1.trans hst.tape),h4.output.trans (h3o.2.2.trans hst.output),by simp;omega,?_,?_⟩⟩
   .rintro k hk (h|h)
    .exact cJ (hst.old k hk (h4.old k (by omega) h))
    exact .inr h
   intro k hk hn;have tQ:¬Z k:=fun h=>hn (cJ h);have xr:k≠w.heap.size+1:=fun h=>hn (.inr (.inr h));have hn3:¬Z2 k:=fun h=>tQ (hst.old k hk h);exact(dL (by omega)).trans ((h4.same k (by omega) hn3).trans ((hp3 k xr).trans (hst.same k hk tQ)))
  rintro e a4 W4 hp;cases e with
  |normal=>
   obtain⟨Z4,h4,hi4⟩:=hp;obtain⟨hr,Xd,Fe,hl5,hk5,hstep⟩:=fin none Z4 W4 h4;exact⟨_,_,hr,_,hstep,cJ ⟨rfl,Z4,rfl,Xd,hI _ _ _ _ hi4 Fe,hl5,hk5⟩⟩
  |ret=>
   obtain⟨Z4,h4,hi4⟩:=hp;obtain⟨hr,Xd,Fe,hl5,hk5,hstep⟩:=fin (some .ret) Z4 W4 h4;exact⟨_,_,hr,_,hstep,.inr ⟨rfl,Z4,.ret,rfl,Xd,hIx _ _ _ _ _ hi4 Fe,hl5,hk5⟩⟩
  |exit id=>
   obtain⟨Z4,h4,hi4⟩:=hp;obtain⟨hr,Xd,Fe,hl5,hk5,hstep⟩:=fin (some (.exit id)) Z4 W4 h4;exact⟨_,_,hr,_,hstep,.inr ⟨rfl,Z4,.exit id,rfl,Xd,hIx _ _ _ _ _ hi4 Fe,hl5,hk5⟩⟩
  |goto t=>
   obtain⟨Z4,h4,hi4⟩:=hp;obtain⟨hr,Xd,Fe,hl5,hk5,hstep⟩:=fin (some (.goto t)) Z4 W4 h4;exact⟨_,_,hr,_,hstep,.inr ⟨rfl,Z4,.goto t,rfl,Xd,hIx _ _ _ _ _ hi4 Fe,hl5,hk5⟩⟩
  |panic ch=>exact hp.elim
  |outgrown=>exact hp.elim
 .exact⟨X,rfl,fun k h=>by have:=(hX k h).2;omega,hI1,hL1,hK1⟩
 have key:∀(Z:Nat->Prop) (W2:ak) (o:Obj),Step (fun k=>X k\/k=w.heap.size\/k=w.heap.size+1) (fun k=>Z k\/k=w.heap.size\/k=w.heap.size+1) W1 W2->Step X Z w (W2.putObj (w.heap.size+1) o):=fun Z W2 o h=>
  ⟨h.os.trans sG.os,h.tape.trans sG.tape,h.output.trans sG.output,by have:=h.size;simp;omega,fun k hk hz=>by
   rcases h.old k (by omega) (cJ hz) with h|h|h
   .exact h
   .omega
   .omega,fun k hk hn=>(dL (by omega)).trans ((h.same k (by omega) (fun h=>by
   rcases h with h|h|h
   .exact hn h
   .omega
   omega)).trans (sG.block k hk))⟩
 rintro e W2 ⟨⟨v,rfl⟩,Y,hstep,(⟨Z,rfl,hz,hi,hl,hk⟩|⟨pre,Z,c,rfl,hz,hi,hl,hk⟩)⟩
 .exact⟨none,_,by have:=run_endLoop (P:=P) hl (by rw[J6];simp);rw[J6] at this;exact this,hdone _ Z _ (aO _) (fun h=>(hz _ h).1 rfl) (key Z W2 _ hstep) (hI _ _ _ _ hi (fun k h=>dL (fun e=>(hz k h).2 (by omega)))) ((dL (by omega)).trans hk)⟩
 exact⟨some c,_,by have:=run_endLoop (P:=P) hl (by rw[J6];simp);rw[J6] at this;exact this,CU _ c pre Z _ (aO _) (fun h=>(hz _ h).1 rfl) (key Z W2 _ hstep) (hIx _ _ _ _ _ hi (fun k h=>dL (fun e=>(hz k h).2 (by omega)))) ((dL (by omega)).trans hk)⟩
end Go.Lag
namespace Go.Proofs.YtffladgmkiimjaaGreatDoor
open Go.RowKit Go.Lag
attribute [local go_sem] Oper.semAt_some
def dS.put(a:dS)(kr:Nat)(n:Int):dS:=
 match kr with
 |0=>{ a with m0:=n }
 |1=>{ a with m1:=n }
 |_=>{ a with m2:=n }
def gu(lo hi:Int):List Int:=(aS (hi+1-lo).toNat).map fun(i:Nat)=>lo+i
def leaves(ok:dS->Bool):List Mn->Nat->dS->List dS
 |[],_,a=>if ok a then[a] else[]
 |m::r,kr,a=>(gu m.lo m.hi).flatMap fun n=>leaves ok r (kr+1) (a.put kr n)
def jA(b:BB)(ss:List Int)(ms:List Mk)(a:dS):Bool:=sA b (b.bS+a.used) (bJ ss) ms
def bf(b:BB)(ml:List Mn)(ss:List Int)(ms:List Mk):List dS:=(gu b.ll b.lm).flatMap fun n=>leaves (jA b ss ms) ml 0 ⟨n,0,0,0⟩
def dS.Oe{a:dS}(h:a.Ok)(kr:Nat){n:Int}(h1:0<=n)(h2:n<=99):(a.put kr n).Ok:=by
 obtain⟨p,q,r,s⟩:=h
 match kr with
 |0=>exact⟨p,⟨h1,h2⟩,r,s⟩
 |1=>exact⟨p,q,⟨h1,h2⟩,s⟩
 |k+2=>exact⟨p,q,r,⟨h1,h2⟩⟩
def dS.XP(a:dS)(kr:Nat)(n z:Int):(a.put kr z).put kr n=a.put kr n:=by
 match kr with
 |0=>rfl
 |1=>rfl
 |k+2=>rfl
def Ji{X X':Nat->Prop}{W W':ak}(h:Step X X' W W'){l i:Nat}(u:aj)(hl:W.heap.size<=l):Step X X' W (W'.setCell ⟨l,i,none⟩ u):=
 ⟨h.os,h.tape,h.output,by simpa using h.size,h.old,fun k hk hx=>(bu _ _ _ _ (by show k≠l;omega)).trans (h.same k hk hx)⟩
structure Hv(b:BB)(bq aM aC:aj)(w0:ak)(bk yk nk l:Nat)(X:Nat->Prop)(W:ak):Prop where
 below:Bw w0 W
 lJ:W.heap[bk]?=some (au (b.cells bq aM aC) 119 (0,0))
 hyk:W.heap[yk]?=some (au #[.func (.yield l) #[] #[]] 159 (0,0))
 hnk:W.heap[nk]?=some (au #[.func (.func 169) #[] #[pv bk 0,pv yk 0,pv nk 0]] 181 (0,0))
 xb:¬X bk
 xy:¬X yk
 xn:¬X nk
 ge:∀k,X k->w0.heap.size<=k
def Hv.step{b:BB}{bq aM aC:aj}{w0:ak}{bk yk nk l:Nat}{X X2:Nat->Prop}{W W':ak}(h:Hv b bq aM aC w0 bk yk nk l X W)(hs:Step X X2 W W'):Hv b bq aM aC w0 bk yk nk l X2 W':=by
 have l1:=(ah.1 h.lJ).1;have l2:=(ah.1 h.hyk).1;have l3:=(ah.1 h.hnk).1;refine⟨h.below.trans (hs.below h.below.size fun k hk hx=>?_),(hs.same _ l1 h.xb).trans h.lJ,(hs.same _ l2 h.xy).trans h.hyk,(hs.same _ l3 h.xn).trans h.hnk,fun hx=>h.xb (hs.old _ l1 hx),fun hx=>h.xy (hs.old _ l2 hx),fun hx=>h.xn (hs.old _ l3 hx),fun k hx=>?_⟩
 .have:=h.ge k hx;omega
 by_cases hk:k<W.heap.size
 .exact h.ge k (hs.old k hk hx)
 have:=h.below.size;omega
def aT{w:ak}{v:aj}{n:Nat}{xs:List aj}(h:Reads w v n xs):∃p cap,v=ae p n cap/\n<=4294967296:=by
 rcases h with⟨rfl,rfl,_⟩|⟨g,off,cap,rfl,h,_⟩
 .exact⟨_,_,rfl,oM⟩
 exact⟨_,_,rfl,h.1⟩
def Wl{α:Type}(P:aN)(l:Nat)(encs:α->Array aj)(n0:Nat)(all:List α)(J Jx:List α->(Nat->Prop)->ak->Prop):Prop:=
 ∀m pre x X1 W1,J pre X1 W1->(∀k,X1 k->n0<=k)->pre++[x] <+: all->YieldAt Fence.wide m P l (encs x) W1 fun e W'=>∃X2,Step X1 X2 W1 W'/\
   ((e=aY (aI true)/\J (pre++[x]) X2 W')\/(e=aY (aI false)/\Jx (pre++[x]) X2 W'))
abbrev SZ(a:dS):Array Value:=#[aR a.cells]
def QS(J Jx:List dS->(Nat->Prop)->ak->Prop)(X:Nat->Prop)(W:ak)(pre ys:List dS)(e:Ending)(W':ak):Prop:=
 ∃X2,Step X X2 W W'/\((e=aY (aI true)/\J (pre++ys) X2 W')\/(e=aY (aI false)/\∃q,Jx q X2 W'))
def RV(b:BB)(bq aM aC:aj)(ml:List Mn)(ss:List Int)(ms:List Mk)(w0:ak)(hB:cQ b bq aM aC ml ss ms w0)(bk yk nk l:Nat)(all:List dS)(J Jx:List dS->(Nat->Prop)->ak->Prop)(hJ:Lag.Abides J)(Xo:Lag.Dh J)
  (hY:Wl aq l SZ w0.heap.size all J Jx) (a:dS) (ha:a.Ok) (pre:List dS) (X:Nat->Prop) (W:ak) (hE:Hv b bq aM aC w0 bk yk nk l X W) (hj:J pre X W) (hp:pre++leaves (jA b ss ms) [] ml.length a <+: all) :
  bm aq 169 #[aR a.cells,ag af ml.length,pv bk 0,pv yk 0,pv nk 0] W (QS J Jx X W pre (leaves (jA b ss ms) [] ml.length a)):=by
 have hx:=Xo _ _ _ hj;have b1:Bw W (W.alloc (au a.cells 134)):=dx;have Xp:=hE.step (Step.of_below b1);have hB1:=hB.below Xp.below;obtain⟨x0,x1,x2,x3,x4,x5,x6,x7,x8,x9,qD,qC,rH,rz,rB⟩:=cg Xp.lJ;have y0:=aK Xp.hyk 0 _ rfl;obtain⟨p,cap,rfl,hlen⟩:=aT hB.rm;have hk:(W.alloc (au a.cells 134)).heap[W.heap.size]?=some (au a.cells 134 (0,0)):=az W _;have z0:=aK hk 0 _ rfl;have z1:=aK hk 1 _ rfl;have z2:=aK hk 2 _ rfl;have z3:=aK hk 3 _ rfl;have hmk:=E3 b hB.ok (ae p ml.length cap) aM aC ss hB.mE ms hB.kI a ha _ hB1.rs hB1.rk;have HM:=ai hmk;have HE:=ai Xp;have HB:=ai hB1;have HY:=ai hY;have HJ:=ai hJ;clear hmk hE hB Xp hB1 hk hY hJ;generalize hL:ml.length=L at *;clear hL;have hlv:leaves (jA b ss ms) [] L a=if jA b ss ms a then[a] else[]:=rfl
 rw[hlv] at hp ⊢;clear hlv
 have HJ2:Hid (∀W',fV (W.alloc (au a.cells 134)).heap.size (W.alloc (au a.cells 134)) W'->J pre X W'/\Step X X W W'):=ai fun W' hb'=>by
  have qu:Bw W W':=b1.trans (hb'.mono b1.size);exact⟨HJ.out _ _ _ _ hj fun k hk=>qu.block k (hx k hk),Step.of_below qu⟩
 clear hj hx HJ
 by_cases hok:jA b ss ms a=true
 .have HK:=ai (az W (au a.cells 134));have hmb:sA b (b.bS+a.used) (bJ ss) ms=true:=hok;rw[hmb] at HM;rw[if_pos hok] at hp ⊢;have HP:=ai hp;clear hp hmb hok b1;refine callsIn_wide (n:=0).1 (callsIn_of_wp Tryz.func169 rfl trivial ?_ rfl);simp only[Tryz.ntmps169,jM,fh,oO,DJ,DI,kj,ki,jN,iH,kC,gY]
  gi_wp2_with (first
   |(refine⟨trivial,rfl,?_⟩;gi_at_call 143;rw[callsIn_wide];refine HM.out.mono ?_;clear HM;rintro e W1 ⟨rfl,hb1⟩
     have TA:=HE.out.step (Step.of_below hb1);have u0:=aK TA.hyk 0 _ rfl;have qT:=(hb1.block W.heap.size sM).trans HK.out;have v0:=aK qT 0 _ rfl;have v1:=aK qT 1 _ rfl;have v2:=aK qT 2 _ rfl;have v3:=aK qT 3 _ rfl;have hjs:=HJ2.out W1 hb1;have HS:=ai hjs.2;obtain⟨fn,tmps,assign,body,hy,hR⟩:=HY.out 0 pre a X W1 hjs.1 TA.ge HP.out
     clear TA qT hjs hb1)
   |(refine⟨rfl,?_⟩;refine hR.mono ?_;clear hR;rintro e W2 ⟨X2,hs2,(⟨rfl,ZW⟩|⟨rfl,ZW⟩)⟩))
  .go_ret
   exact⟨X2,HS.out.trans hs2,cJ ⟨rfl,ZW⟩⟩
  go_ret
  exact⟨X2,HS.out.trans hs2,.inr ⟨rfl,_,ZW⟩⟩
 have HK:=ai (az W (au a.cells 134));have hmb:sA b (b.bS+a.used) (bJ ss) ms=false:=by simpa [jA] using hok
 rw[hmb] at HM;rw[if_neg hok] at hp ⊢;clear hp hmb hok b1 HY;refine callsIn_wide (n:=0).1 (callsIn_of_wp Tryz.func169 rfl trivial ?_ rfl);simp only[Tryz.ntmps169,jM,fh,oO,DJ,DI,kj,ki,jN,iH,kC,gY]
 gi_wp2_with (first
  |(refine⟨trivial,rfl,?_⟩;gi_at_call 143;rw[callsIn_wide];refine HM.out.mono ?_;clear HM;rintro e W1 ⟨rfl,hb1⟩
    have TA:=HE.out.step (Step.of_below hb1);have u0:=aK TA.hyk 0 _ rfl;have qT:=(hb1.block W.heap.size sM).trans HK.out;have v0:=aK qT 0 _ rfl;have v1:=aK qT 1 _ rfl;have v2:=aK qT 2 _ rfl;have v3:=aK qT 3 _ rfl;have hjs:=HJ2.out W1 hb1;have HS:=ai hjs
    clear TA qT hjs hb1))
 refine⟨fun _ _=>trivial,?_⟩
 gi_wp2
 go_ret
 exact⟨X,HS.out.2,cJ ⟨rfl,by rw[List.append_nil];exact HS.out.1⟩⟩
def QM{w:ak}{B:Nat}{a:dS}(kr:Nat)(hm:kr<3)(n:Int)(h:w.heap[B]?=some (au a.cells 134 (0,0))):(w.setCell ⟨B,1+kr,none⟩ (ag af n)).heap[B]?=some (au (a.put kr n).cells 134 (0,0)):=by
 obtain⟨hk,h⟩:=ah.1 h
 match kr,hm with
 |0,_=>simp[kz,hk,h,Ck,dS.put]
 |1,_=>simp[kz,hk,h,Ck,dS.put]
 |2,_=>simp[kz,hk,h,Ck,dS.put]
def EG{lo hi:Int}{k:Nat}(h:lo+k<=hi):k<(gu lo hi).length/\∀h',(gu lo hi)[k]'h'=lo+k:=by
 constructor
 .simp[gu];omega
 intro h';simp[gu]
def IU{α β:Type}(l:List α)(f:α->List β){k:Nat}(h:k<l.length):(l.take (k+1)).flatMap f=(l.take k).flatMap f++f l[k]:=by
 rw[List.take_succ_eq_append_getElem h,List.flatMap_append];simp
def RU(b:BB)(bq aM aC:aj)(ml:List Mn)(ss:List Int)(ms:List Mk)(w0:ak)(hB:cQ b bq aM aC ml ss ms w0)(bk yk nk l:Nat)(all:List dS)(J Jx:List dS->(Nat->Prop)->ak->Prop)(hJ:Lag.Abides J)(Xo:Lag.Dh J)
  (fr:List Mn) (m:Mn) (r:List Mn) (Va:ml=fr++m::r)
  (ih:∀(a:dS),a.Ok->∀(pre:List dS) (X:Nat->Prop) (W:ak),Hv b bq aM aC w0 bk yk nk l X W->J pre X W->pre++leaves (jA b ss ms) r (fr.length+1) a <+: all->
   bm aq 169 #[aR a.cells,ag af ((fr.length+1:Nat):Int),pv bk 0,pv yk 0,pv nk 0] W (QS J Jx X W pre (leaves (jA b ss ms) r (fr.length+1) a)))
  (a:dS) (ha:a.Ok) (pre:List dS) (X:Nat->Prop) (W:ak) (hE:Hv b bq aM aC w0 bk yk nk l X W) (hj:J pre X W) (hp:pre++leaves (jA b ss ms) (m::r) fr.length a <+: all) :
  bm aq 169 #[aR a.cells,ag af fr.length,pv bk 0,pv yk 0,pv nk 0] W (QS J Jx X W pre (leaves (jA b ss ms) (m::r) fr.length a)):=by
 have hx:=Xo _ _ _ hj;have hlen:fr.length<ml.length:=by rw[Va];simp
 have KQ:fr.length<3:=by have:=hB.gS.len;omega
 have hmk:ml[fr.length]=m:=by simp[Va]
 have DX:=hB.gS.mem m (by rw[Va];simp)
 obtain⟨g,off,cap,rfl,al7,hg,hcm⟩:∃g off cap,bq=ae (some ⟨g,off,none⟩) ml.length cap/\(ml.length<=4294967296/\ml.length<=cap)/\g<w0.heap.size/\∀j u,(fQ ml)[j]?=some u->w0.cell? ⟨g,off+j,none⟩=some u:=by
  rcases hB.rm with⟨_,h,_⟩|h
  .omega
  exact h
 have hcell:=DV hcm fr.length hlen;rw[hmk] at hcell
 have HC:Hid (∀W',Bw w0 W'->W'.cell? ⟨g,off+fr.length*3+1,none⟩=some (ag af m.lo)/\W'.cell? ⟨g,off+fr.length*3+2,none⟩=some (ag af m.hi)):=
  ai fun W' hb=>⟨(hb.cell (p:=⟨g,_,none⟩) hg).trans hcell.2.1,(hb.cell (p:=⟨g,_,none⟩) hg).trans hcell.2.2⟩
 clear hcell hcm;have hl3:=hB.gS.len;have HB:=ai hB;have HI:=ai ih;have HP:=ai hp;have HX:=ai hx;have HJ:=ai hJ;have hlv:leaves (jA b ss ms) (m::r) fr.length a=(gu m.lo m.hi).flatMap fun n=>leaves (jA b ss ms) r (fr.length+1) (a.put fr.length n):=rfl;have b1:Bw W (W.alloc (au a.cells 134)):=dx;have Xp:=hE.step (Step.of_below b1);have hj1:J pre X (W.alloc (au a.cells 134)):=hJ _ _ _ _ hj fun k hk=>b1.block k (hx k hk);obtain⟨x0,x1,x2,x3,x4,x5,x6,x7,x8,x9,qD,qC,rH,rz,rB⟩:=cg Xp.lJ;obtain⟨c1,c2⟩:=HC.out _ Xp.below;have hXa:¬X W.heap.size:=fun h=>absurd (hx _ h) oM;have HE1:=ai Xp;have HE:=ai hE;have HJ1:=ai hj1;have HXa:=ai hXa;clear hB ih hp hx hJ hE Xp hj1 hXa hj;clear hmk Va;generalize ml.length=L at *;generalize fr.length=kr at *;generalize jA b ss ms=ok at *;refine callsIn_wide (n:=0).1 (callsIn_of_wp Tryz.func169 rfl trivial ?_ rfl);simp only[Tryz.ntmps169,jM,fh,oO,DJ,DI,kj,ki,jN,iH,kC,gY];have i1:(kr:Int)<(L:Int):=oM;have i2:(0:Int)<=(kr:Int):=oM;have i3:((kr:Int)==(L:Int))=false:=sO
 gi_wp2
 have w1:IntKind.i64.wrap (kr+1)=((kr+1:Nat):Int):=by rw[fO _ oM oM];omega
 gi_loopw [8] (fun v wr=>∃(k:Nat) (X1:Nat->Prop),v=ag af (m.lo+k)/\m.lo+k<=m.hi+1/\Step X X1 W wr/\¬X1 W.heap.size/\J (pre++((gu m.lo m.hi).take k).flatMap fun n=>leaves ok r (kr+1) (a.put kr n)) X1 wr/\
   ∃a':dS,(∀n,a'.put kr n=a.put kr n)/\wr.heap[W.heap.size]?=some (au a'.cells 134 (0,0))) (fun v _=>(m.hi+1-intOf v).toNat)
 case atStart=>exact⟨0,X,sM,oM,Step.of_below b1,HXa.out,by simpa using HJ1.out,a,fun _=>rfl,az W _⟩
 case round=>
  obtain⟨k,X1,rfl,hk,hst,xV,hjk,a',ha',hab⟩:=hrel;have Vr:=HE.out.step hst;have P5:Step X X1 W (wr.setCell ⟨W.heap.size,1+kr,none⟩ (ag af (m.lo+k))):=Ji hst _ (aO _);have TA:=HE.out.step P5;have MD:=QM kr KQ (m.lo+k) hab;have hcc:a'.put kr (m.lo+k)=a.put kr (m.lo+k):=ha' _;rw[hcc] at MD
  have ZW:J (pre++((gu m.lo m.hi).take k).flatMap fun n=>leaves ok r (kr+1) (a.put kr n)) X1 (wr.setCell ⟨W.heap.size,1+kr,none⟩ (ag af (m.lo+k))):=
   HJ.out _ _ _ _ hjk fun i hi=>bu _ _ _ _ (by rintro rfl;exact xV hi)
  have hx1:=Xo _ _ _ hjk;clear x0 x1 x2 x3 x4 x5 x6 x7 x8 x9 qD qC rH rz rB c1 c2;obtain⟨x0,x1,x2,x3,x4,x5,x6,x7,x8,x9,qD,qC,rH,rz,rB⟩:=cg Vr.lJ;obtain⟨c1,c2⟩:=HC.out _ Vr.below;have v0:=aK hab 0 _ rfl;have v1:=aK hab 1 _ rfl;have v2:=aK hab 2 _ rfl;have v3:=aK hab 3 _ rfl
  have vm:∃u,wr.cell? ⟨W.heap.size,1+kr,none⟩=some u:=by
   match kr,KQ with
   |0,_=>exact⟨_,v1⟩
   |1,_=>exact⟨_,v2⟩
   |2,_=>exact⟨_,v3⟩
  obtain⟨um,vm⟩:=vm;have vf:=cZ hab (1+kr);have z0:=aK MD 0 _ rfl;have z1:=aK MD 1 _ rfl;have z2:=aK MD 2 _ rfl;have z3:=aK MD 3 _ rfl;have n0:=aK TA.hnk 0 _ rfl;have hap:=dS.Oe ha kr (n:=m.lo+k) oM;have w2:IntKind.i64.wrap (m.lo+(k:Int)+1)=m.lo+((k+1:Nat):Int):=by rw[fO _ oM oM];omega
  by_cases hlt:m.lo+(k:Int)<=m.hi
  .obtain⟨Ab,ZV⟩:=EG hlt;have Sr:=IU (gu m.lo m.hi) (fun n=>leaves ok r (kr+1) (a.put kr n)) Ab;rw[ZV Ab] at Sr
   have hih:=HI.out (a.put kr (m.lo+k)) (hap oM) _ X1 _ TA ZW (by
    rw[List.append_assoc,<-Sr];have:=HP.out;rw[hlv] at this;refine List.IsPrefix.trans ?_ this;rw[List.prefix_append_right_inj];refine⟨((gu m.lo m.hi).drop (k+1)).flatMap fun n=>leaves ok r (kr+1) (a.put kr n),?_⟩
    rw[<-List.flatMap_append,List.take_append_drop])
   have HPP:Hid (∀n,(a.put kr (m.lo+k)).put kr n=a.put kr n):=ai fun n=>dS.XP _ _ _ _;have HIH:=ai hih;have HS2:=ai P5;have HF:=ai Sr;have KU:=ai hlv;have HA:=ai MD;have HX1:=ai hx1;have HN:=ai TA;have HXX:=ai xV;clear hih P5 Sr ZV ZW TA Vr hab MD hst hjk xV ha' hcc hlv hx1 hap;generalize a.put kr (m.lo+k)=a2 at *
   gi_wp2_with (first
    |(refine⟨trivial,rfl,?_⟩;gi_at_call 169;rw[callsIn_wide];refine HIH.out.mono ?_;clear HIH;rintro e W3 ⟨X3,hs3,(⟨rfl,hj3⟩|⟨rfl,q,hj3⟩)⟩))
   .go_roundw
    case rel=>
     have afE:W.heap.size<(wr.setCell ⟨W.heap.size,1+kr,none⟩ (ag af (m.lo+k))).heap.size:=(ah.1 HA.out).1;refine⟨k+1,X3,sM,oM,HS2.out.trans hs3,fun h=>HXX.out (hs3.old _ afE h),?_,a2,HPP.out,(hs3.same _ afE HXX.out).trans HA.out⟩;rw[HF.out,<-List.append_assoc];exact hj3
    case measure=>simp[intOf];omega
   go_ret
   exact⟨X3,HS2.out.trans hs3,.inr ⟨rfl,q,hj3⟩⟩
  have hmh:m.hi=m.lo+k-1:=oM;have hall:(gu m.lo m.hi).take k=gu m.lo m.hi:=di (by simp[gu];omega);rw[hall] at hjk;have HJK:=ai hjk;have HS:=ai hst;have KU:=ai hlv;clear P5 ZW TA Vr hab MD hst hjk xV ha' hcc hlv hx1 hap hall
  gi_wp2
  go_ret
  rw[KU.out];exact⟨X1,HS.out,cJ ⟨rfl,HJK.out⟩⟩
def Uy(b:BB)(bq aM aC:aj)(ml:List Mn)(ss:List Int)(ms:List Mk)(w0:ak)(hB:cQ b bq aM aC ml ss ms w0)(bk yk nk l:Nat)(all:List dS)(J Jx:List dS->(Nat->Prop)->ak->Prop)(hJ:Lag.Abides J)(Xo:Lag.Dh J)
  (hY:Wl aq l SZ w0.heap.size all J Jx):∀(r fr:List Mn),ml=fr++r->∀(a:dS),a.Ok->∀(pre:List dS) (X:Nat->Prop) (W:ak),Hv b bq aM aC w0 bk yk nk l X W->J pre X W->pre++leaves (jA b ss ms) r fr.length a <+: all->
   bm aq 169 #[aR a.cells,ag af fr.length,pv bk 0,pv yk 0,pv nk 0] W (QS J Jx X W pre (leaves (jA b ss ms) r fr.length a)):=by
 intro r
 induction r with
 |nil=>
  rintro fr rfl a ha pre X W hE hj hp;have e:fr++([]:List Mn)=fr:=List.append_nil _;have:=RV b bq aM aC (fr++[]) ss ms w0 hB bk yk nk l all J Jx hJ Xo hY a ha pre X W hE hj (by rw[e];exact hp);rw[e] at this;exact this
 |cons m r ih=>
  intro fr Va a ha pre X W hE hj hp;refine RU b bq aM aC ml ss ms w0 hB bk yk nk l all J Jx hJ Xo fr m r Va (fun a ha pre X W hE hj hp=>?_) a ha pre X W hE hj hp;have:=ih (fr++[m]) (by rw[Va];simp) a ha pre X W hE hj (by simpa using hp);simpa using this
def np(W:ak)(A B C:Array aj)(tA tB tC:a7) :
  (((W.alloc (au A tA)).alloc (au B tB)).alloc (au C tC)).heap[W.heap.size]?=some (au A tA (0,0))/\
  (((W.alloc (au A tA)).alloc (au B tB)).alloc (au C tC)).heap[W.heap.size+1]?=some (au B tB (0,0))/\
  (((W.alloc (au A tA)).alloc (au B tB)).alloc (au C tC)).heap[W.heap.size+2]?=some (au C tC (0,0)):=by
 refine⟨?_,?_,?_⟩
 .exact(aZ _ _ _ sO).trans ((aZ _ _ _ sM).trans (az W _))
 .refine(aZ _ _ _ sM).trans ?_;have:=az (W.alloc (au A tA)) (au B tB);rwa [dY] at this
 have:=az ((W.alloc (au A tA)).alloc (au B tB)) (au C tC);rwa [dY,dY] at this
def IZ(b:BB)(bq aM aC:aj)(ml:List Mn)(ss:List Int)(ms:List Mk)(w0:ak)(hB:cQ b bq aM aC ml ss ms w0):acS aq 117 #[aR (b.cells bq aM aC)] SZ (bf b ml ss ms) w0:=by
 intro l J Jx X W hb hX hJ hJx Xo ajC hY h0;show bm aq 117 #[aR (b.cells bq aM aC),.func (.yield l) #[] #[]] W _;have hok:=hB.ok;have Ty:=hok.leak;have YH:=np W (b.cells bq aM aC) #[.func (.yield l) #[] #[]] #[.func (.func 169) #[] #[pv W.heap.size 0,pv (W.heap.size+1) 0,pv (W.heap.size+1+1) 0]] 119 159 181;have hb3:∀A B C,Bw W (((W.alloc A).alloc B).alloc C):=fun A B C=>(((aB _ W).alloc (aO _) _).alloc sM _).alloc sO _
 have hE0:Hv b bq aM aC w0 W.heap.size (W.heap.size+1) (W.heap.size+1+1) l X (((W.alloc (au (b.cells bq aM aC) 119)).alloc (au #[.func (.yield l) #[] #[]] 159)).alloc (au #[.func (.func 169) #[] #[pv W.heap.size 0,pv (W.heap.size+1) 0,pv (W.heap.size+1+1) 0]] 181)):=
  ⟨hb.trans ((hb3 _ _ _).mono hb.size),YH.1,YH.2.1,YH.2.2,fun h=>by have:=(hX _ h).2;omega,fun h=>by have:=(hX _ h).2;omega,fun h=>by have:=(hX _ h).2;omega,fun k h=>(hX k h).1⟩
 have hS0:=Step.of_below (X:=X) (hb3 (au (b.cells bq aM aC) 119) (au #[.func (.yield l) #[] #[]] 159) (au #[.func (.func 169) #[] #[pv W.heap.size 0,pv (W.heap.size+1) 0,pv (W.heap.size+1+1) 0]] 181));have hJ0:=hJ _ _ _ (((W.alloc (au (b.cells bq aM aC) 119)).alloc (au #[.func (.yield l) #[] #[]] 159)).alloc (au #[.func (.func 169) #[] #[pv W.heap.size 0,pv (W.heap.size+1) 0,pv (W.heap.size+1+1) 0]] 181)) h0 fun k hk=>(hb3 _ _ _).block k (hX k hk).2
 have hN:=fun(X1:Nat->Prop) (W1:ak) (n:Int) (h1:0<=n) (h2:n<=99) (pre:List dS) (hE:Hv b bq aM aC w0 W.heap.size (W.heap.size+1) (W.heap.size+1+1) l X1 W1) (hj:J pre X1 W1) (hp:pre++leaves (jA b ss ms) ml 0 ⟨n,0,0,0⟩ <+: bf b ml ss ms)=>
  Uy b bq aM aC ml ss ms w0 hB W.heap.size (W.heap.size+1) (W.heap.size+1+1) l (bf b ml ss ms) J Jx hJ Xo hY ml [] rfl ⟨n,0,0,0⟩ ⟨⟨h1,by show n<=400;omega⟩,sM,sM,sM⟩ pre X1 W1 hE hj hp
 have HN:=ai hN;have HE0:=ai hE0;have HS0:=ai hS0;have HJ0:=ai hJ0;clear YH hb3 hE0 hS0 hJ0 hN hY hJ hJx Xo ajC h0 hX hb hB;generalize vq:jA b ss ms=ok at *;have hall:bf b ml ss ms=(gu b.ll b.lm).flatMap fun n=>leaves ok ml 0 ⟨n,0,0,0⟩:=by rw[<-vq];rfl
 rw[hall] at HN ⊢;clear hall vq
 go_enter Tryz.func117,Tryz.ntmps117
 go_wp2
 go_loopw [5] (fun v wr=>∃(k:Nat) (X1:Nat->Prop),v=ag af (b.ll+k)/\b.ll+k<=b.lm+1/\Step X X1 W wr/\Hv b bq aM aC w0 W.heap.size (W.heap.size+1) (W.heap.size+1+1) l X1 wr/\J (((gu b.ll b.lm).take k).flatMap fun n=>leaves ok ml 0 ⟨n,0,0,0⟩) X1 wr) (fun v _=>(b.lm+1-intOf v).toNat)
 case atStart=>exact⟨0,X,sM,oM,HS0.out,HE0.out,by simpa using HJ0.out⟩
 case round=>
  obtain⟨k,X1,rfl,hk,hst,Vr,hjk⟩:=hrel;obtain⟨x0,x1,x2,x3,x4,x5,x6,x7,x8,x9,qD,qC,rH,rz,rB⟩:=cg Vr.lJ;have n0:=aK Vr.hnk 0 _ rfl;have w2:IntKind.i64.wrap (b.ll+(k:Int)+1)=b.ll+((k+1:Nat):Int):=by rw[fO _ oM oM];omega
  by_cases hlt:b.ll+(k:Int)<=b.lm
  .obtain⟨Ab,ZV⟩:=EG hlt;have Sr:=IU (gu b.ll b.lm) (fun n=>leaves ok ml 0 ⟨n,0,0,0⟩) Ab;rw[ZV Ab] at Sr
   have hih:=HN.out X1 wr (b.ll+k) oM oM _ Vr hjk (by
    rw[<-Sr];refine⟨((gu b.ll b.lm).drop (k+1)).flatMap fun n=>leaves ok ml 0 ⟨n,0,0,0⟩,?_⟩
    rw[<-List.flatMap_append,List.take_append_drop])
   have HIH:=ai hih;have HS2:=ai hst;have HF:=ai Sr;have HEr:=ai Vr;clear hih Sr ZV Vr hst hjk
   go_wp2_with (first
    |(go_at_call 169;refine HIH.out.mono ?_;clear HIH;rintro e W3 ⟨X3,hs3,(⟨rfl,hj3⟩|⟨rfl,q,hj3⟩)⟩))
   .go_roundw
    case rel=>
     refine⟨k+1,X3,sM,oM,HS2.out.trans hs3,HEr.out.step hs3,?_⟩;rw[HF.out];exact hj3
    case measure=>simp[intOf];omega
   (try simp only[Exit.inBlock,Exit.then]);refine bj (results_none rfl _ _ _) rfl ?_
   exact⟨⟨_,rfl⟩,X3,HS2.out.trans hs3,.inr ⟨q,hj3⟩⟩
  have hall:(gu b.ll b.lm).take k=gu b.ll b.lm:=di (by simp[gu];omega);rw[hall] at hjk;have HJK:=ai hjk;have HS:=ai hst;clear Vr hst hjk hall;go_wp2
  go_end0
  exact⟨⟨_,rfl⟩,X1,HS.out,cJ HJK.out⟩
end Go.Proofs.YtffladgmkiimjaaGreatDoor
namespace Go.Lag
open Go Go.RowKit
def Whole(A:aj->Prop)(e:a7)(w:ak)(v:aj):Prop:=∀g,v.ownBlock=some g->∃cur,w.heap[g]?=some (.cells cur e (0,0))/\∀u∈cur,A u
def GU{A:aj->Prop}{zs:Array aj}(h:∀u∈zs,A u)(n:Nat):∀u∈f_ zs n,A u:=by
 intro u hu;unfold f_ at hu;rw[Array.mem_map] at hu;obtain⟨i,hi,rfl⟩:=hu;have hlt:i<n*zs.size:=by simpa using hi
 have jX:0<zs.size:=by
  rcases Nat.eq_zero_or_pos zs.size with h0|h0
  .rw[h0] at hlt;simp at hlt
  exact h0
 have hk:=Nat.mod_lt i jX;rw[getElem!_pos zs _ hk];exact h _ (Array.getElem_mem hk)
def KB{P:aN}(w:ak)(A:aj->Prop)(base:Nat)(t ty e:a7)(i:TypeInfo)(z:aj)(size td:Nat)(ht:P.underlying t=some (.slice e))(hi:P.info? e=some i)(hz:i.zero=some z)
  (hsize:i.size=size) (hby:i.bytes=td) (hzs:z.cells.size=size) (hsz:0<size)
  (v:aj) (n:Nat) (xs:List aj) (hown:w.ownsRow base e size v n xs)
  (a:cX) (m c:Nat) (news:List aj) (hl:news.length=m*size) (hnews:∀j u,news[j]?=some u->w.cell? (a.add j)=some u) (h1:∀u∈news,u.oneCell'=true)
  (h63:n+m<=maxLen) (hbytes:(n+m)*td<=140737488355328) (hm:0<m)
  (hAz:∀u∈z.cells,A u) (hAn:∀u∈news,A u) (hAv:Whole A e w v) {v':aj} {w':ak}
  (hr:(Builtin.append_ #[t,t] ty #[v,.slice (some a) m c]).run P w=.ok v' w'):Whole A e w' v':=by
 subst hsize;subst hby;have aa_:n+m<=9223372036854775807:=by simp only[maxLen] at h63;omega
 have hAx:∀u∈xs,A u:=by
  intro u hu;rcases hown.2 with⟨rfl,rfl⟩|⟨g,cap,cur,rfl,_,hg,_,_,_,U0⟩
  .have hx:xs=[]:=a8 (by simpa using hown.1);rw[hx] at hu;cases hu
  obtain⟨cur',Gs,hA⟩:=hAv g rfl;rw[hg] at Gs;obtain rfl:cur=cur':=by simpa using Gs
  rw[<-U0] at hu;exact hA u (by simpa using eU hu)
 have fin:∀(l:List aj) (k:Nat),(∀u∈l,A u)->∀u∈l.toArray++f_ z.cells k,A u:=by
  intro l k hl u hu;rw[Array.mem_append] at hu;rcases hu with h|h
  .exact hl u (by simpa using h)
  exact GU hAz k u h
 rcases hown.2 with⟨rfl,rfl⟩|⟨g,cap,cur,rfl,hbg,hg,vF,hcm,hcs,U0⟩
 .have hr2:=run_append_nil (P:=P) w t ty e i z ht hi hz a m c news hl hnews hm (by omega) (by have hb:=hbytes;simp only[dh] at hb;omega);rw[hr2] at hr;cases hr;intro g hg;obtain rfl:w.heap.size=g:=by simpa [jy] using hg
  exact⟨_,heap_alloc_new w.drew _,fin _ _ hAn⟩
 by_cases hroom:n+m<=cap
 .have Ss:n*i.size+news.length<=cur.size:=by rw[hl,hcs,<-Nat.add_mul];exact Nat.mul_le_mul_right _ hroom
  have hr2:=run_append_room (P:=P) w t ty e i ht hi g n cap cur hg a m c news hl hnews h1 hroom Ss;rw[hr2] at hr;cases hr;intro g' Gs;obtain rfl:g=g':=by simpa [jy] using Gs
  refine⟨_,setRow_heap w g cur _ e _ hg,?_⟩;obtain⟨cur',hg2,hA⟩:=hAv g rfl;rw[hg] at hg2;obtain rfl:cur=cur':=by simpa using hg2
  intro u hu;simp only[List.mem_toArray,bB] at hu;rcases hu with(h|h)|h
  .exact hA u (by simpa using eU h)
  .exact hAn u h
  exact hA u (by simpa using List.mem_of_mem_drop h)
 have holds:∀j u,xs[j]?=some u->w.cell? ((⟨g,0,none⟩:cX).add j)=some u:=hown.cells (g:=g) rfl;have hr2:=run_append_grow (P:=P) w t ty e i z ht hi hz ⟨g,0,none⟩ n cap xs hown.1 holds a m c news hl hnews (by omega) (by omega) (growslice_fits (by omega) hbytes);rw[hr2] at hr;cases hr;intro g' Gs;obtain rfl:w.heap.size=g':=by simpa [jy] using Gs
 refine⟨_,heap_alloc_new w.drew _,?_⟩;rw[show xs.toArray++news.toArray=(xs++news).toArray by simp];refine fin _ _ fun u hu=>?_;rw[bB] at hu;exact hu.elim (hAx u) (hAn u)
section
variable{F:Fence}{nF:Nat}{P:aN}(w:ak)
theorem vo{aP:Array cO}{rest:List cO}{o:cO}{a:j6}{Q:Exit->j6->ak->Prop}(hgd:o.guard=none)(s x:bI)(t:a7)
  (ho:o.op=.call { callee:=.builtin .append,args:=#[s,x],argTypes:=#[t,t] })
  (A:aj->Prop) (base:Nat) (e:a7) (i:TypeInfo) (z:aj) (size td:Nat) (ht:P.underlying t=some (.slice e)) (hi:P.info? e=some i) (hz:i.zero=some z)
  (hsize:i.size=size) (hby:i.bytes=td) (hzs:z.cells.size=size) (hsz:0<size)
  (v:aj) (n:Nat) (xs:List aj) (hs:a.eval s=v) (hown:w.ownsRow base e size v n xs)
  (ad:cX) (m c:Nat) (news:List aj) (hx:a.eval x=.slice (some ad) m c) (hl:news.length=m*size) (hnews:∀j u,news[j]?=some u->w.cell? (ad.add j)=some u) (h1:∀u∈news,u.oneCell'=true)
  (h63:n+m<=maxLen) (hbytes:(n+m)*td<=140737488355328) (hbase:base<=w.heap.size) (hm:0<m) (hAz:∀u∈z.cells,A u) (hAn:∀u∈news,A u) (hAv:Whole A e w v)
  (h:∀v' w',w'.ownsRow base e size v' (n+m) (xs++news)->w.grownBy w' v.ownBlock->Whole A e w' v'->(v'.ownBlock=v.ownBlock\/v'.ownBlock=some w.heap.size)->wpListIn F nF P aP Q rest (a.put o.dst v') w') :
  wpListIn F nF P aP Q (o::rest) a w:=by
 refine wpListIn_plain hgd fun K hK=>?_;obtain⟨v',w',hr,h2,h3,h4,h5⟩:=run_append_own_at (P:=P) w base t o.type e i z size td ht hi hz hsize hby hzs hsz v n xs hown ad m c news hl hnews h1 h63 hbytes hbase;have h6:=KB w A base t o.type e i z size td ht hi hz hsize hby hzs hsz v n xs hown ad m c news hl hnews h1 h63 hbytes hm hAz hAn hAv hr;unfold Oper.wpIn;refine⟨by simp[Oper.about,ho,B6,Target.leads,Sem.run_pure],?_⟩;rw[Oper.semAt_plain F _ _ (by rw[ho];intro c hc';cases hc')];simp[bY,ho,B6,invoke,builtin,hs,hx,hr,Result.andThen];exact hK _ _ (h v' w' h2 h3 h6 h5)
end
end Go.Lag
namespace Go.Proofs.YtffladgmkiimjaaGreatDoor
open Go.RowKit Go.Lag
attribute [local go_sem] Oper.semAt_some
def Qp:(Tryz.prog.info? 134).map (fun i=>(i.zero,i.size,i.bytes))=some (some (.agg #[.int .i64 0,.int .i64 0,.int .i64 0,.int .i64 0]),4,32):=kQ
def Ww(u:aj):Prop:=∃n,u=.int .i64 n
def iv(W:ak)(base:Nat)(v:aj)(l:List dS):Prop:=W.ownsRow base 134 4 v l.length (rowOf l)/\Whole Ww 134 W v
def UU(x:dS):∀u∈x.cells.toList,Ww u:=by
 intro u hu;simp at hu;rcases hu with rfl|rfl|rfl|rfl<;>exact⟨_,rfl⟩
def ac7(n0 B:Nat)(pre:List dS)(X:Nat->Prop)(W:ak):Prop:=
 ∃v,Boxed W B 120 v/\iv W n0 v pre/\∀k,X k↔(k=B\/some k=v.ownBlock)
def eN{W W':ak}{base:Nat}{e:a7}{size:Nat}{v:aj}{k:Nat}{xs:List aj}(h:W.ownsRow base e size v k xs)(hs:∀g,v.ownBlock=some g->W'.heap[g]?=W.heap[g]?):W'.ownsRow base e size v k xs:=by
 refine⟨h.1,?_⟩;rcases h.2 with hn|⟨g,cap,cur,rfl,hb,Fo,rest⟩
 .exact .inl hn
 exact .inr ⟨g,cap,cur,rfl,hb,(hs g rfl).trans Fo,rest⟩
def iv.at_{W W':ak}{base:Nat}{v:aj}{l:List dS}(h:iv W base v l)(hs:∀g,v.ownBlock=some g->W'.heap[g]?=W.heap[g]?):iv W' base v l:=
 ⟨eN h.1 hs,fun g hg=>by obtain⟨cur,h1,h2⟩:=h.2 g hg;exact⟨cur,(hs g hg).trans h1,h2⟩⟩
def iv.base{W:ak}{base base':Nat}{v:aj}{l:List dS}(h:iv W base v l)(hb:base'<=base):iv W base' v l:=by
 refine⟨⟨h.1.1,?_⟩,h.2⟩;rcases h.1.2 with hn|⟨g,cap,cur,rfl,hb',rest⟩
 .exact .inl hn
 exact .inr ⟨g,cap,cur,rfl,aF hb hb',rest⟩
def iv.reads{W:ak}{base:Nat}{v:aj}{l:List dS}(h:iv W base v l)(hl:l.length<=4294967296):Reads W v l.length (rowOf l):=Reads.iA h.1 hl (by rw[h.1.1])
def Ns(n0 B:Nat):Lag.Abides (ac7 n0 B):=by
 rintro pre X W W' ⟨v,h1,h2,h3⟩ hs;exact⟨v,(hs B ((h3 B).2 (.inl rfl))).trans h1,h2.at_ fun g hg=>hs g ((h3 g).2 (.inr hg.symm)),h3⟩
def Gc(n0 B:Nat):Lag.Dh (ac7 n0 B):=by
 rintro pre X W ⟨v,h1,h2,h3⟩ k hk;rcases(h3 k).1 hk with rfl|h
 .exact h1.lt
 exact(h2.1.lt k h.symm).2
def agU(n0 B:Nat)(bk:aj)(pre:List dS)(x:dS)(a:j6)(X:Nat->Prop)(W:ak):Prop:=
 ∃k v,a=⟨#[.slice none 0 0,.func (.func 117) #[bk] #[],pv B 0,aw,.slice none 0 0,pv k 0,.func (.func 117) #[bk] #[],.agg x.cells,aw,aw,aw,aw,aw],[]⟩/\
  Boxed W B 120 v/\iv W n0 v pre/\W.heap[k]?=some (.cells x.cells 134 (0,0))/\(∀j,X j↔(j=B\/j=k\/some j=v.ownBlock))
def Nt(n0 B:Nat)(bk:aj)(pre:List dS)(x:dS):Lag.Abides (agU n0 B bk pre x):=by
 rintro a X W W' ⟨k,v,h0,h1,h2,h3,h4⟩ hs;exact⟨k,v,h0,(hs B ((h4 B).2 (.inl rfl))).trans h1,h2.at_ fun g hg=>hs g ((h4 g).2 (.inr (.inr hg.symm))),(hs k ((h4 k).2 (.inr (.inl rfl)))).trans h3,h4⟩
def uI{n D:Nat}(W:ak)(o:Obj)(h:n<=D):fV n W (W.putObj D o):=⟨rfl,rfl,rfl,sM,fun k hk=>dL oM⟩
def EB(l:List dS)(x:dS):rowOf (l++[x])=rowOf l++x.cells.toList:=by simp[rowOf]
def Hq(bk:aj)(all:List dS)(hall:all.length<=1000)(w0:ak)(hseq:acS aq 117 #[bk] SZ all w0)(w:ak)(hb:Bw w0 w) :
  bm aq 168 #[.slice none 0 0,.func (.func 117) #[bk] #[]] w fun e w'=>∃v,e=.returned v/\iv w' w.heap.size v all/\Bw w w':=by
 obtain⟨i0,hi,hz0,hz1,hz2⟩:=info_parts Qp;have HSQ:=ai hseq;clear hseq;refine callsIn_wide (n:=0).1 (callsIn_of_wp_marks Tryz.func168 rfl trivial ?_ rfl);simp only[Tryz.ntmps168,jM,fh,oO,DJ,DI,kj,ki,jN,iH,kC,gY]
 gi_wp2
 have hb1:Bw w (w.alloc (.cells #[.slice none 0 0] 120)):=dx;have hs0:=hb.size
 refine tq (gf:=117) (la:=#[bk]) rfl (enters_of Tryz.func117 kQ rfl) (encs:=SZ) (all:=all) (w0:=w0) HSQ.out (hb.trans (hb1.mono hs0)) (fun _=>rfl) (ac7 w.heap.size w.heap.size) (fun _ _ _ _=>False) (Ns _ _) (fun _ _ _ _ _ h _=>h) (Gc _ _) (fun _ _ _ _ h=>h.elim)
  (fun k=>k=w.heap.size) (by rintro k rfl;exact⟨hs0,sM⟩) ⟨_,Boxed.new _ _ _,⟨World.ownsRow_nil _ _ _ _,fun g hg=>by simp[jy] at hg⟩,fun k=>by simp[jy]⟩ (agU w.heap.size w.heap.size bk) (Nt _ _ _) ?rassign ?rbody ?rdone ?rstop
 case rassign=>
  intro l m pre x X1 W K hI hge hpre hK;obtain⟨v,h1,h2,h3⟩:=hI;have hX1:=Gc _ _ _ _ _ ⟨v,h1,h2,h3⟩;have HK:=ai hK;clear hK
  gi_wp2
  refine HK.out _ (fun j=>X1 j\/j=W.heap.size) _ ⟨rfl,rfl,rfl,sM,?_,?_⟩ ⟨W.heap.size,v,rfl,h1.alloc _,h2.at_ (fun g hg=>aZ _ _ _ (h2.1.lt g hg).2),az _ _,fun j=>?_⟩
  .rintro j hj (h|rfl)
   .exact h
   omega
  .intro j hj _;exact aZ _ _ _ hj
  show(X1 j\/j=W.heap.size)↔_;rw[h3];constructor
  .rintro((h|h)|h)
   .exact .inl h
   .exact .inr (.inr h)
   exact .inr (.inl h)
  rintro(h|h|h)
  .exact .inl (.inl h)
  .exact .inr h
  exact .inl (.inr h)
 case rbody=>
  rintro l m pre x a' X1 W ⟨k,v,rfl,h1,h2,h3,h4⟩ hge hpre;have hlen:pre.length+1<=1000:=by have:=hpre.length_le;simp at this;omega
  have c0:=aK h3 0 _ rfl;have c1:=aK h3 1 _ rfl;have c2:=aK h3 2 _ rfl;have c3:=aK h3 3 _ rfl;have b0:=h1.cell;have hw1:w.heap.size<=W.heap.size:=Nat.le_of_lt h1.lt
  have HQ2:Hid (∀u∈(Value.agg #[.int .i64 0,.int .i64 0,.int .i64 0,.int .i64 0]).cells,Ww u):=ai fun u hu=>by
   have h:u∈#[aD .i64 0,.int .i64 0,.int .i64 0,.int .i64 0]:=hu;simp at h;exact⟨0,h⟩
  have HQ3:Hid (Whole Ww 134 (W.alloc (.cells x.cells 134)) v):=ai fun g hg=>by
   obtain⟨cur,q1,q2⟩:=h2.2 g hg;exact⟨cur,(aZ _ _ _ (h2.1.lt g hg).2).trans q1,q2⟩
  have WA:Hid (∀(j:Nat) (u:aj),x.cells.toList[j]?=some u->(W.alloc (.cells x.cells 134)).cell? ((⟨W.heap.size,0,none⟩:cX).add j)=some u):=ai fun j u hj=>by
   have:=az W (.cells x.cells 134);have h5:=aK this j u (by simpa using hj);have e:(⟨W.heap.size,0,none⟩:cX).add j=⟨W.heap.size,j,none⟩:=by cases j<;>simp[Addr.add]
   rw[e];exact h5
  gi_wp2_with (first
   |(gi_at_builtin;refine vo _ rfl _ _ 120 rfl Ww w.heap.size 134 i0 (.agg #[.int .i64 0,.int .i64 0,.int .i64 0,.int .i64 0]) 4 32 Tryz.underlying120 hi hz0 hz1 hz2 rfl dC _ _ _ rfl (h2.1.alloc _) ⟨W.heap.size,0,none⟩ 1 1 x.cells.toList rfl rfl WA.out (by simp[cD]) (by unfold maxLen;omega) oM sO dC HQ2.out (UU x) HQ3.out ?_
     intro v' w1 hown' hgrow hwh hat;obtain⟨p1,p2,p3,p4,p5⟩:=Boxed.appended h1 dC h2.1 hw1 (aO _) hown' hgrow;obtain⟨g',cap',rfl⟩:=ownsRow_succ hown';have f1:=p1.cell;have f2:=p1.frozen;have HO:=ai (And.intro p2 (And.intro p3 (And.intro hgrow (And.intro hat hwh))));have aeN:=p1.not_row dC hown';have HPN:=ai aeN
     clear p2 p3 p4 p5 hown' hgrow hwh hat aeN))
  obtain⟨p2,p3,hgrow,hat,hwh⟩:=HO.out;refine⟨fun j=>j=w.heap.size\/some j=jy (.slice (some ⟨g',0,none⟩) (pre.length+1) cap'),⟨hgrow.os,hgrow.tape,hgrow.output,by have:=hgrow.size;simp at this ⊢;omega,?_,?_⟩,_,p2,?_,fun j=>Iff.rfl⟩
  .rintro j hj (rfl|h)
   .exact(h4 _).2 (.inl rfl)
   rcases hat with e|e
   .rw[e] at h;exact(h4 _).2 (.inr (.inr h))
   rw[e] at h;simp at h;omega
  .intro j hj hx;have hx2:=fun h=>hx ((h4 j).2 h);refine(bu _ _ _ _ (fun e=>hx2 (.inl e))).trans ((hgrow.block j sO (fun e=>hx2 (.inr (.inr e)))).trans (aZ _ _ _ hj))
  refine⟨by rw[EB,qj];exact p3,fun g hg=>?_⟩;obtain⟨cur,q1,q2⟩:=hwh g hg;exact⟨cur,(bu _ _ _ _ (fun e=>HPN.out ((congrArg some (show w.heap.size=g from e.symm)).trans hg.symm))).trans q1,q2⟩
 case rdone=>
  rintro D X2 W hD hXD hst ⟨v,h1,h2,h3⟩ hK;have b0:=h1.cell;have sG:Bw w W:=hb1.trans (hst.below sM (by rintro k hk rfl;omega));have HB:=ai sG;have HO:=ai h2;have HK:=ai hK;clear sG h2 h3 hst
  have Si:(∃n cap,v=.slice none n cap)\/∃g n cap,v=.slice (some g) n cap:=by
   rcases HO.out.1.2 with⟨rfl,_⟩|⟨g,cap,cur,rfl,_⟩
   .exact .inl ⟨_,_,rfl⟩
   exact .inr ⟨_,_,_,rfl⟩
  rcases Si with⟨n,cap,rfl⟩|⟨g,n,cap,rfl⟩
  all_goals
   gi_wp2
   refine⟨sM,.inl ⟨_,_,rfl,run_takeDeferred HK.out,?_⟩⟩;exact⟨_,bZ rfl _ _ _,_,rfl,HO.out.at_ (fun g hg=>dL (fun e=>by obtain⟨cur,q1,_⟩:=HO.out.2 g hg;have hk:=HK.out;rw[<-e,q1] at hk;cases hk)),HB.out.trans (uI _ _ (by simp at hD;omega))⟩
 case rstop=>
  rintro D c pre X2 W _ _ _ h;exact h.elim
def EF(lo hi:Int):(gu lo hi).length=(hi+1-lo).toNat:=by simp[gu]
def Fy{α β:Type}(f:α->List β)(n:Nat):∀(l:List α),(∀x∈l,(f x).length<=n)->(l.flatMap f).length<=l.length*n
 |[],_=>by simp
 |x::l,h=>by
  have h1:=h x sM;have h2:=Fy f n l fun y hy=>h y (by simp[hy]);simp only[List.flatMap_cons,qj,fh,Nat.add_mul];omega
def E8(ok:dS->Bool):∀(r:List Mn) (kr:Nat) (a:dS),(∀m∈r,m.hi-m.lo<3)->(leaves ok r kr a).length<=3 ^ r.length
 |[],kr,a,_=>by simp only[leaves];split<;>simp
 |m::r,kr,a,h=>by
  have h1:=Fy (fun n=>leaves ok r (kr+1) (a.put kr n)) (3 ^ r.length) (gu m.lo m.hi) fun n _=>E8 ok r (kr+1) _ fun m' hm=>h m' (by simp[hm]);have h2:=EF m.lo m.hi;have h3:=h m sM;have h4:(gu m.lo m.hi).length<=3:=oM;show((gu m.lo m.hi).flatMap _).length<=_;refine aF h1 ?_;rw[fh,Nat.pow_succ,Nat.mul_comm];exact Nat.mul_le_mul_left _ h4
def iR{b:BB}{ml:List Mn}(ss:List Int)(ms:List Mk)(hb:b.Ok)(hm:yf ml):(bf b ml ss ms).length<=81:=by
 have h1:=Fy (fun n=>leaves (jA b ss ms) ml 0 ⟨n,0,0,0⟩) 27 (gu b.ll b.lm) fun n _=>by
  have h2:=E8 (jA b ss ms) ml 0 ⟨n,0,0,0⟩ fun m h=>(hm.mem m h).2.2.2.2;have h3:3 ^ ml.length<=3 ^ 3:=Nat.pow_le_pow_right oM hm.len;omega
 have h2:=EF b.ll b.lm;have h3:=hb.leak;unfold bf;omega
def o_(b:BB)(bq aM aC:aj)(ml:List Mn)(ss:List Int)(ms:List Mk)(w:ak)(hB:cQ b bq aM aC ml ss ms w) :
  bm aq 116 #[.func (.func 117) #[.agg (b.cells bq aM aC)] #[]] w fun e w'=>∃v,e=.returned v/\iv w' w.heap.size v (bf b ml ss ms)/\Bw w w':=by
 have hl:=iR ss ms hB.ok hB.gS;have H:=ai (Hq (.agg (b.cells bq aM aC)) (bf b ml ss ms) oM w (IZ b bq aM aC ml ss ms w hB) w (aB _ _));clear hB;generalize bf b ml ss ms=all at *
 go_enter Tryz.func116,Tryz.ntmps116
 go_wp2_with (go_at_call 168;refine H.out.mono ?_;rintro e w' ⟨v,rfl,ho,hb⟩;have HO:=ai ho;clear ho)
 go_ret
 exact⟨v,rfl,HO.out,hb⟩
def zD{fn:Func}{t:jR}(h:fn.results = #[.cell t 4]){tmps:Array aj}{w:ak}{B:Nat}{z:Bool}(hp:tmps.getD t aw=pv B 0)(hc:w.cell? ⟨B,0,none⟩=some (.bool z)) :
  (results fn tmps).run aq w=.ok (.bool z) w:=by
 rw[a_] at hp;unfold results;rw[h];simp only[List.mapM_toArray,go_sem];go_simp
def Lm(b:BB)(bq aM aC:aj)(ml:List Mn)(ss:List Int)(ms:List Mk)(w:ak)(hB:cQ b bq aM aC ml ss ms w) :
  bm aq 119 #[.agg (b.cells bq aM aC)] w (Rt w (.bool (decide (bf b ml ss ms≠[])))):=by
 have HSQ:=ai (IZ b bq aM aC ml ss ms w hB);clear hB;generalize bf b ml ss ms=all at *;refine callsIn_wide (n:=0).1 (callsIn_of_wp_marks Tryz.func119 rfl trivial ?_ rfl);simp only[Tryz.ntmps119,jM,fh,oO,DJ,DI,kj,ki,jN,iH,kC,gY]
 gi_wp2
 have hb1:Bw w ((w.alloc (.cells (b.cells bq aM aC) 119)).alloc (.cells #[.bool false] 4)):=dx.alloc sM _
 have Vl:Boxed ((w.alloc (.cells (b.cells bq aM aC) 119)).alloc (.cells #[.bool false] 4)) (w.heap.size+1) 4 (.bool false):=by
  have:=Boxed.new (w.alloc (.cells (b.cells bq aM aC) 119)) 4 (.bool false);rwa [dY] at this
 refine tq (gf:=117) (la:=#[.agg (b.cells bq aM aC)]) rfl (enters_of Tryz.func117 kQ rfl) (encs:=SZ) (all:=all) (w0:=w) HSQ.out hb1 (fun _=>rfl)
  (fun pre X W=>pre=[]/\Boxed W (w.heap.size+1) 4 (.bool false)/\∀k,X k↔k=w.heap.size+1) (fun c _ X W=>c=.ret/\all≠[]/\Boxed W (w.heap.size+1) 4 (.bool true)/\∀k,X k↔k=w.heap.size+1)
  (fun _ _ _ _ h hs=>⟨h.1,(hs _ ((h.2.2 _).2 rfl)).trans h.2.1,h.2.2⟩) (fun _ _ _ _ _ h hs=>⟨h.1,h.2.1,(hs _ ((h.2.2.2 _).2 rfl)).trans h.2.2.1,h.2.2.2⟩)
  (fun _ _ _ h k hk=>by rw[(h.2.2 k).1 hk];exact h.2.1.lt) (fun _ _ _ _ h k hk=>by rw[(h.2.2.2 k).1 hk];exact h.2.2.1.lt)
  (fun k=>k=w.heap.size+1) (by rintro k rfl;exact⟨oM,sM⟩) ⟨rfl,Vl,fun _=>Iff.rfl⟩
  (fun pre x a' X W=>a'=⟨#[.agg (b.cells bq aM aC),pv w.heap.size 0,pv (w.heap.size+1) 0,.agg (b.cells bq aM aC),.func (.func 117) #[.agg (b.cells bq aM aC)] #[],.agg x.cells],[]⟩/\Boxed W (w.heap.size+1) 4 (.bool false)/\∀k,X k↔k=w.heap.size+1)
  (fun _ _ _ _ _ _ h hs=>⟨h.1,(hs _ ((h.2.2 _).2 rfl)).trans h.2.1,h.2.2⟩) ?rassign ?rbody ?rdone ?rstop
 case rassign=>
  rintro l m pre x X1 W K ⟨rfl,h1,h2⟩ hge hpre hK;have HK:=ai hK;clear hK
  gi_wp2
  exact HK.out _ X1 _ (Step.refl _ _) ⟨sM,h1,h2⟩
 case rbody=>
  rintro l m pre x a' X1 W ⟨rfl,h1,h2⟩ hge hpre;have c0:=h1.cell;have c1:=h1.frozen
  have hne:all≠[]:=by
   rintro rfl;have:=hpre.length_le;simp at this
  have HN:=ai hne;clear hne
  gi_wp2
  refine⟨X1,⟨rfl,rfl,rfl,sM,fun _ _ h=>h,fun k hk hx=>bu _ _ _ _ (by rintro rfl;exact hx ((h2 _).2 rfl))⟩,rfl,HN.out,h1.set _,h2⟩
 case rdone=>
  rintro D X2 W hD hXD hst ⟨rfl,h1,h2⟩ hK;have b0:=h1.cell;have b1:=h1.frozen;have sG:Bw w W:=hb1.trans (hst.below sO (by rintro k hk rfl;omega));have HB:=ai sG;have HK:=ai hK;have HH:=ai h1;clear sG h2 hst hK
  gi_wp2
  simp only[dY] at hD;have hlt:=HH.out.lt;refine⟨sM,.inl ⟨_,_,rfl,run_takeDeferred ((bu _ _ _ _ (by show D≠w.heap.size+1;omega)).trans HK.out),?_⟩⟩;refine⟨_,zD (B:=w.heap.size+1) (z:=false) rfl rfl ((World.cell?_of_block (dL (by show w.heap.size+1≠D;omega))).trans (HH.out.set _).cell),sM,?_⟩;exact(HB.out.setCell (p:=⟨w.heap.size+1,0,none⟩) (by show _<=w.heap.size+1;omega) _).trans (uI _ _ oM)
 case rstop=>
  rintro D c pre X2 W hD hXD hst ⟨rfl,hne,h1,h2⟩ hK;have sG:Bw w W:=hb1.trans (hst.below sO (by rintro k hk rfl;omega));have HB:=ai sG;have HK:=ai hK;have HH:=ai h1;have HN:=ai hne;clear sG h2 hst hK hne h1
  gi_wp2
  simp only[dY] at hD;refine⟨sM,.inl ⟨_,_,rfl,run_takeDeferred HK.out,?_⟩⟩;refine⟨_,zD (B:=w.heap.size+1) (z:=true) rfl rfl ((World.cell?_of_block (dL (by show w.heap.size+1≠D;omega))).trans HH.out.cell),by simp[HN.out],?_⟩;exact HB.out.trans (uI _ _ oM)
abbrev iE:Array Value:=#[.int .i64 0,.int .i64 0,.int .i64 0,.int .i64 0,.int .i64 0,.int .i64 0,.int .i64 0,.int .i64 0,.int .i64 0,.int .i64 0,.int .i64 0,.int .i64 0,.slice none 0 0,.slice none 0 0,.slice none 0 0,.slice none 0 0]
def dc{w:ak}{B i:Nat}{cs:Array aj}{t:a7}(u:aj)(h:w.heap[B]?=some (.cells cs t (0,0))):(w.setCell ⟨B,i,none⟩ u).heap[B]?=some (.cells (cs.setIfInBounds i u) t (0,0)):=by
 obtain⟨hk,h⟩:=ah.1 h;simp[kz,hk,h,Ck]
def dg{w:ak}{B:Nat}{cs new:Array aj}{t:a7}(h:w.heap[B]?=some (.cells cs t (0,0))):(w.setRow B new).heap[B]?=some (.cells new t (0,0)):=by
 obtain⟨hk,h⟩:=ah.1 h;simp[World.setRow,hk,h,Ck]
def setRow_other{w:ak}{B k:Nat}{new:Array aj}(h:k≠B):(w.setRow B new).heap[k]?=w.heap[k]?:=by
 simp[World.setRow,Array.getElem?_modify,Ne.symm h]
def setRow_size{w:ak}{B:Nat}{new:Array aj}:(w.setRow B new).heap.size=w.heap.size:=by simp[World.setRow]
def dA{n B:Nat}{a w:ak}{new:Array aj}(h:fV n a w)(hB:n<=B):fV n a (w.setRow B new):=
 ⟨h.os,h.tape,h.output,by rw[setRow_size];exact h.size,fun k hk=>(setRow_other oM).trans (h.block k hk)⟩
def results_cell_tmp{fn:Func}{p q:jR}{ty:a7}(h:fn.results = #[.cell p ty,.tmp q]){tmps:Array aj}{w:ak}{g:Nat}{cs:Array aj}
  (hp:tmps.getD p aw=pv g 0)
  (hl:(loadVar ty ⟨g,0,none⟩).run aq w=.ok (.agg cs) w) :
  (results fn tmps).run aq w=.ok (.tuple #[.agg cs,tmps.getD q aw]) w:=by
 have hp':tmps[p]?.getD aw=pv g 0:=by simpa using hp
 simp[results,h,hp',asAddr,hl]
def uv(b:BB)(bq aM aC:aj)(ml:List Mn)(ss:List Int)(ms:List Mk)(w:ak)(hL:Laid w)(hB:cQ b bq aM aC ml ss ms w)(hne:bf b ml ss ms≠[])
  (hown:∀W,Bw w W->bm aq 122 #[.agg (b.cells bq aM aC)] W fun e W'=>e=.returned (.int .i64 0)/\Bw W W') :
  bm aq 103 #[.agg (b.cells bq aM aC),.func (.func 122) #[] #[]] w fun e w'=>∃v,e=.returned (.tuple #[.agg (b.open bq aM aC v),.int .i64 0])/\iv w' w.heap.size v (bf b ml ss ms)/\Bw w w':=by
 have ug:Hid (∀W,Bw w W->bm aq 71 #[.agg (b.cells bq aM aC)] W fun e w'=>e=.returned (.int .i64 0)/\Bw W w'):=ai fun W hb=>eO b bq aM aC ml ss ms W (hL.below hb) (hB.below hb);have WN:Hid (∀W,Bw w W->bm aq 116 #[.func (.func 117) #[.agg (b.cells bq aM aC)] #[]] W fun e w'=>∃v,e=.returned v/\iv w' W.heap.size v (bf b ml ss ms)/\Bw W w'):=ai fun W hb=>o_ b bq aM aC ml ss ms W (hB.below hb);have NB:=ai hown;obtain⟨pm,cm,rfl,_⟩:=aT hB.rm;obtain⟨pn,cn,rfl,_⟩:=aT hB.rs;obtain⟨pk,ck,rfl,_⟩:=aT hB.rk;have jX:0<(bf b ml ss ms).length:=List.length_pos_iff.2 hne;clear hL hB hne hown;generalize bf b ml ss ms=all at *;generalize ml.length=lm at *;generalize ss.length=ln at *;generalize ms.length=lk at *;have b0:Bw w ((w.alloc (.cells (b.sl pm lm cm pn ln cn pk lk ck) 28)).alloc (.cells iE 122)):=dx.alloc sM _;have HT:Hid (Two w (b.sl pm lm cm pn ln cn pk lk ck) 28 iE 122 ((w.alloc (.cells (b.sl pm lm cm pn ln cn pk lk ck) 28)).alloc (.cells iE 122))):=ai ⟨(Two.mk' w _ _ _ _).one,(Two.mk' w _ _ _ _).two,b0,sM⟩;have Jb:=ai b0;clear b0
 go_enter Tryz.func103,Tryz.ntmps103
 go_wp2_with (first
  |(refine wpList_load_row rfl 122 _ rfl _ rfl 122 _ (0,0) _ HL7.out jl rfl kQ ?_)
  |(refine wpList_store_row rfl 122 _ _ rfl _ _ rfl rfl 122 _ PQ.out kQ rfl (by simp[cD]) ?_)
  |(go_at_call 71;refine(ug.out _ Jb.out).mono ?_;clear ug;rintro e w1 ⟨rfl,hb1⟩
    have sZ:=HT.out.next hb1;have pE:=ai sZ
    obtain⟨x0,x1,x2,x3,x4,x5,x6,x7,x8,x9,qD,qC,rH,rz,rB⟩:=cg sZ.one
    clear sZ hb1)
  |(go_at_call 122;refine(NB.out _ (pE.out.below.alloc (by have:=pE.out.size;omega) _)).mono ?_;clear NB;rintro e w2 ⟨rfl,hb2⟩
    have Dp:=(pE.out.next ((aB _ _).alloc (aO _) (.cells (b.open (.slice pm lm cm) (.slice pn ln cn) (.slice pk lk ck) (.slice none 0 0)) 122))).next hb2;have Hs:=ai Dp
    have hk2:=(hb2.block w1.heap.size sM).trans (az w1 _);have Hu:=ai hk2;have hs1:=pE.out.size;have hs2:=hb2.size;obtain⟨y0,y1,y2,y3,y4,y5,y6,y7,y8,y9,NS,PW,PV,PU,KX,Jd⟩:=jJ hk2
    clear Dp hk2 hb2)
  |(go_at_call 116;refine(WN.out _ Hs.out.below).mono ?_;clear WN;rintro e w3 ⟨v,rfl,jc,hb3⟩
    have Gq:=Hs.out.next hb3;have QU:=ai Gq;have NC:=ai jc
    simp only[dY] at hs2;have hk3:=(hb3.block w1.heap.size oM).trans Hu.out;have HK3:=ai hk3;have hs3:=hb3.size;clear y0 y1 y2 y3 y4 y5 y6 y7 y8 y9 NS PW PV PU KX Jd;have Jd:=aK hk3 15 _ rfl;have f7:=cZ hk3 15;have pF:=ai hb3
    obtain⟨gv,pg,rfl,Fj⟩:∃gv pg,v=.slice (some ⟨gv,0,none⟩) all.length pg/\w2.heap.size<=gv:=by
     rcases jc.1.2 with⟨_,h0⟩|⟨g,cap,cur,rfl,hg,_⟩
     .omega
     exact⟨g,cap,rfl,hg⟩
    have HL7:Hid ((w3.setCell ⟨w1.heap.size,15,none⟩ (.slice (some ⟨gv,0,none⟩) all.length pg)).heap[w1.heap.size]?=some (.cells (b.open (.slice pm lm cm) (.slice pn ln cn) (.slice pk lk ck) (.slice (some ⟨gv,0,none⟩) all.length pg)) 122 (0,0))):=ai (dc _ hk3);have PQ:Hid ((w3.setCell ⟨w1.heap.size,15,none⟩ (.slice (some ⟨gv,0,none⟩) all.length pg)).heap[w.heap.size+1]?=some (.cells iE 122 (0,0))):=ai ((bu _ _ _ _ (by show w.heap.size+1≠w1.heap.size;omega)).trans Gq.two)
    clear Gq hk3 hb3 jc))
 refine bj (results_cell_tmp (g:=w.heap.size+1) rfl rfl (run_loadVar_row _ _ 122 122 _ (0,0) _ (dg PQ.out) jl rfl kQ)) rfl ⟨_,rfl,?_,?_⟩
 .have hs1:=pE.out.size;refine(NC.out.at_ fun g hg=>?_).base oM;have Fo:g=gv:=by simpa [jy] using hg.symm
  subst Fo;exact(setRow_other oM).trans (bu _ _ _ _ (by show g≠w1.heap.size;omega))
 have hs1:=pE.out.size;exact dA (QU.out.below.setCell (p:=⟨w1.heap.size,15,none⟩) (by show _<=w1.heap.size;omega) _) oM
end Go.Proofs.YtffladgmkiimjaaGreatDoor
namespace Go.Lag
open Go Go.RowKit Go.Proofs.YtffladgmkiimjaaGreatDoor
abbrev Es:=List (jR × En)
def X7(d:jR)(ch:List (Nat × Bool)):Bool:=ch.all fun p=>!Nat.beq p.1 d
section
variable(P:aN)(aP:Array cO)(base:List (jR × aj))(C:Cf)(n:Nat)
def qW(es:Es):bI->aj
 |.const v=>v
 |.global g=>.pointer (some ⟨g,0,none⟩)
 |.func f=>.func (.func f) #[] #[]
 |.tmp t=>match mF es t with
  |some e=>e.2.1
  |none=>(mF base t).getD aw
def Tt(es:Es)(ch:List (Nat × Bool)):bI->Bool
 |.tmp t=>match mF es t with
  |some e=>subs e.1 ch
  |none=>(mF base t).isSome
 |_=>true
def S8(es:Es)(g:jR):List (Nat × Bool):=match mF es g with|some e=>e.1|none=>[]
def SH(es:Es)(o:cO):Option (List (Nat × Bool)):=
 match o.guard with
 |none=>some []
 |some (j,b)=>match eo aP j with
  |none=>none
  |some g=>match mF C.lits g with
   |some b'=>bif b'==b then some (S8 es g) else none
   |none=>some ((g,b)::S8 es g)
def aaZ:bI->Option Bool
 |.tmp t=>mF C.lits t
 |_=>none
def PX(c:bI)(b:Bool)(ch:List (Nat × Bool)):List (Nat × Bool):=
 match c with
 |.tmp t=>(t,b)::ch
 |_=>ch
def IC(es:Es)(i:Nat)(o:cO):Option (Next × List Nat):=look P (VY C i) (bY (qW base es) o)
def yl(es:Es)(i:Nat)(o:cO):aj × List Nat:=
 match mF C.hs i with
 |some v=>(v,[])
 |none=>match o.op with
  |.pick c a b=>(match aaZ C c with
   |some true=>qW base es a
   |some false=>qW base es b
   |none=>bools (qW base es c) (qW base es a) (qW base es b),[])
  |_=>match IC P base C es i o with
   |some (.value v,bl)=>(v,bl)
   |_=>(aw,[])
def sI(es:Es)(i:Nat)(o:cO):En:=
 match SH aP C es o with
 |none=>([],aw,[])
 |some ch=>(ch,yl P base C es i o)
def Og(es:Es)(i:Nat)(o:cO):Es:=
 match o.dst with
 |some d=>(d,sI P aP base C es i o)::es
 |none=>es
def GQ:Nat->List cO->Es->Es
 |_,[],es=>es
 |i,o::l,es=>GQ (i+1) l (Og P aP base C es i o)
def jZ(es:Es)(ch:List (Nat × Bool)):Bool:=ch.all fun p=>OJ (qW base es (.tmp p.1)) p.2
def okO(es:Es)(i:Nat)(o:cO)(ch:List (Nat × Bool)):Bool:=
 match o.op with
 |.pick c a b=>(mF C.hs i).isNone&&Tt base es ch c&&(match aaZ C c with
  |some true=>OJ (qW base es c) true&&Tt base es ch a
  |some false=>OJ (qW base es c) false&&Tt base es ch b
  |none=>isBool (qW base es c)&&isBool (qW base es a)&&isBool (qW base es b)&&Tt base es (PX c true ch) a&&Tt base es (PX c false ch) b)
 |_=>(match uT o.op with
   |some l=>l.all (Tt base es ch)
   |none=>false) &&
  (match mF C.hs i with
  |some _=>true
  |none=>match IC P base C es i o with
   |some (.value _,bl)=>(qO C i).isSome||bl.isEmpty
   |_=>false)
def Vw(es:Es)(o:cO):Bool:=
 match o.guard with
 |none=>true
 |some (j,_)=>match eo aP j with
  |none=>false
  |some g=>((mF es g).isSome||(mF base g).isSome)&&(match mF C.lits g with | some b'=>OJ (qW base es (.tmp g)) b' | none=>true)
def QH(es:Es)(e:En)(o:cO):Bool:=
 match o.dst with
 |none=>true
 |some d=>Nat.blt d n&&X7 d e.1&&es.all fun p=>X7 d p.2.1
def Y4:Nat->List cO->Es->Bool
 |_,[],_=>true
 |i,o::l,es=>(Vw aP base C es o&&(match SH aP C es o with
  |none=>true
  |some ch=>okO P base C es i o ch)&&QH n es (sI P aP base C es i o) o)&&Y4 (i+1) l (Og P aP base C es i o)
def Yh:Nat->List cO->Es->List (List Nat)
 |_,[],_=>[]
 |i,o::l,es=>(sI P aP base C es i o).2.2::Yh (i+1) l (Og P aP base C es i o)
def Yg:Nat->List cO->Es->List (List Nat)
 |_,[],_=>[]
 |i,o::l,es=>((sI P aP base C es i o).2.2.map fun _=>((qO C i).map (·.1)).getD 0)::Yg (i+1) l (Og P aP base C es i o)
def Ao(i k:Nat):List Oper:=(aP.toList.drop i).take k
def MZ(i j:Nat):Es:=GQ P aP base C i (Ao aP i (j-i)) []
def TF(G:Nat->iT Next->ak->aj->Prop)(S:ak->Prop)(i:Nat):List (Nat × aj)->Prop
 |[]=>True
 |p::l=>(∀w,S w->jZ base (MZ P aP base C i p.1) (sI P aP base C (MZ P aP base C i p.1) p.1 (opAt aP p.1)).1=true->G p.1 (bY (qW base (MZ P aP base C i p.1)) (opAt aP p.1)) w p.2)/\TF G S i l
def adY(es:Es)(t:jR):Option Value:=
 match mF es t with
 |some e=>match e.1 with|[]=>some e.2.1|_=>none
 |none=>none
structure Nz(a0:j6)(es:Es)(a:j6):Prop where
 size:a.tmps.size=n
 defers:a.defers=[]
 ent:∀t e,mF es t=some e->a.eval (.tmp t)=NN (jZ base es e.1) e.2.1
 bas:∀t v,mF es t=none->mF base t=some v->a.eval (.tmp t)=v
 keep:∀t,mF es t=none->a.eval (.tmp t)=a0.eval (.tmp t)
structure xq(Wp:List Nat->j6->ak->Prop)(Y:mQ):Prop where
 go:∀i rest o a w R,aP[i]?=some o->cU o (j8 aP a.tmps)=true->Y o a.eval w R->(∀v w',R v w'->Wp rest (a.put o.dst v) w')->Wp (i::rest) a w
 no:∀i rest o a w,aP[i]?=some o->¬cU o (j8 aP a.tmps)=true->Wp rest (a.put o.dst aw) w->Wp (i::rest) a w
def vT(dE:List (jR × aj))(i k:Nat)(outs:List (jR × aj)):Bool × List (List Nat) × List (Option aj):=
 (Nat.ble (i+k) aP.size&&(dE.all fun p=>(mF (GQ P aP base C i (Ao aP i k) []) p.1).isNone)&&Y4 P aP base C n i (Ao aP i k) [],Yh P aP base C i (Ao aP i k) [],outs.map fun p=>adY (GQ P aP base C i (Ao aP i k) []) p.1)
def vS(i k:Nat)(outs:List (jR × aj)):Bool × List (List Nat) × List (Option aj):=(true,Yg P aP base C i (Ao aP i k) [],outs.map fun p=>some p.2)
end
section
variable{P:aN}{aP:Array cO}{base:List (jR × aj)}{C:Cf}{n:Nat}{S:ak->Prop}{a0:j6}
theorem vZ{β:Type}(d:Nat)(e:β)(es:List (Nat × β))(t:Nat):mF ((d,e)::es) t=if d=t then some e else mF es t:=by
 show(bif Gx d t then some e else mF es t)=_;cases hb:Gx d t with
 |true=>rw[if_pos (iC hb)];rfl
 |false=>rw[if_neg (fun h=>by subst h;rw[Nat.beq_refl] at hb;cases hb)];rfl
theorem D7{es:Es}{t:jR}:qW base es (.tmp t)=match mF es t with|some e=>e.2.1|none=>(mF base t).getD undef:=rfl
theorem Lb{o:cO}{j g:Nat}{b:Bool}{a:j6}(hgd:o.guard=some (j,b))(NK:eo aP j=some g):cU o (j8 aP a.tmps)=true↔a.eval (.tmp g)=.bool b:=by
 have hd:(aP[j]?).bind (·.dst)=some g:=NK;have hy:j8 aP a.tmps j=match a.tmps[g]? with|some (.bool x)=>some x|_=>none:=by unfold j8;rw[hd];rfl
 have he:a.eval (.tmp g)=(a.tmps[g]?).getD undef:=by unfold Act.eval;simp only[a_]
 unfold cU;rw[hgd,he];simp only[];rw[hy];cases h8:a.tmps[g]? with
 |none=>simp[aw]
 |some v=>cases v<;>simp
theorem E_{ev:bI->aj}{t:jR}{v:aj}:∀ {l:List (jR × aj)},gh ev l->mF l t=some v->ev (.tmp t)=v
 |p::l,hb,h=>by
  obtain⟨d,x⟩:=p;rw[vZ] at h;split at h
  .rename_i hd;subst hd;cases h;exact hb.1
  exact E_ hb.2 h
theorem Zz{es:Es}{a:j6}{ch:List (Nat × Bool)}(hi:Nz base n a0 es a)(hc:jZ base es ch=true):∀ {x:bI},Tt base es ch x=true->a.eval x=qW base es x
 |.const v,_=>rfl
 |.global g,_=>rfl
 |.func f,_=>rfl
 |.tmp t,h=>by
  unfold Tt at h;unfold qW;simp only[] at h ⊢;cases hs:mF es t with
  |none=>
   rw[hs] at h;simp only[] at h ⊢;cases hk:mF base t with
   |none=>rw[hk] at h;cases h
   |some v=>exact hi.bas t v hs hk
  |some e=>
   rw[hs] at h;simp only[] at h ⊢;rw[hi.ent t e hs]
   have:jZ base es e.1=true:=by
    unfold subs at h;unfold jZ at *;rw[aX] at *;intro p hp;obtain⟨q,hq,h1⟩:=H4.1 (h p hp);rw[aJ] at h1;have h2:=hc q hq;rw[iC h1.1,eq_of_beq h1.2];exact h2
   rw[this];rfl
theorem M7{es:Es}{d:jR}{e:En}{ch:List (Nat × Bool)}(h:X7 d ch=true):jZ base ((d,e)::es) ch=jZ base es ch:=by
 unfold jZ;unfold X7 at h;rw[aX] at h;rw[Bool.eq_iff_iff,aX,aX];refine forall_congr' fun p=>forall_congr' fun hp=>?_;have h1:=h p hp;have hne:d≠p.1:=fun e=>by rw[<-e,Nat.beq_refl] at h1;cases h1
 rw[D7,D7,vZ,if_neg hne]
theorem Qo{es:Es}{a:j6}{i:Nat}{o:cO}{v:aj}(hi:Nz base n a0 es a)(hd:QH n es (sI P aP base C es i o) o=true)(hv:∀d,o.dst=some d->v=NN (jZ base es (sI P aP base C es i o).1) (sI P aP base C es i o).2.1) :
  Nz base n a0 (Og P aP base C es i o) (a.put o.dst v):=by
 unfold Og;unfold QH at hd;cases hdd:o.dst with
 |none=>exact⟨hi.size,hi.defers,hi.ent,hi.bas,hi.keep⟩
 |some d=>
  rw[hdd] at hd;simp only[aJ] at hd ⊢;obtain⟨⟨h1,h2⟩,h3⟩:=hd
  have hdn:d<n:=by
   unfold Nat.blt at h1;exact Nat.le_of_ble_eq_true h1
  rw[aX] at h3;refine⟨by rw[zG,hi.size],by rw[put_defers,hi.defers],fun t e ht=>?_,fun t u ht hb=>?_,fun t ht=>?_⟩
  .rw[vZ] at ht;split at ht
   .rename_i hdt;subst hdt;cases ht;rw[put_eq a d v (by rw[hi.size];exact hdn),M7 h2];exact hv d hdd
   rename_i hdt;rw[ur _ _ _ _ (by simpa using hdt),hi.ent t e ht,M7];exact h3 (t,e) (zY ht)
  .rw[vZ] at ht;split at ht
   .cases ht
   rename_i hdt;rw[ur _ _ _ _ (by simpa using hdt)];exact hi.bas t u ht hb
  rw[vZ] at ht;split at ht
  .cases ht
  rename_i hdt;rw[ur _ _ _ _ (by simpa using hdt)];exact hi.keep t ht
theorem TF.get{G:Nat->iT Next->ak->aj->Prop}{i:Nat}:∀ {l:List (Nat × aj)} {p:Nat × aj},TF P aP base C G S i l->p∈l->∀w,S w->jZ base (MZ P aP base C i p.1) (sI P aP base C (MZ P aP base C i p.1) p.1 (opAt aP p.1)).1=true->G p.1 (bY (qW base (MZ P aP base C i p.1)) (opAt aP p.1)) w p.2
 |q::l,p,h,hp=>by
  rcases cj.1 hp with rfl|hp
  .exact h.1
  exact TF.get h.2 hp
theorem XB{es:Es}{i:Nat}{o:cO}(Sl:∀c a b,o.op≠.pick c a b)(Bo:mF C.hs i=none):yl P base C es i o=match IC P base C es i o with|some (.value v,bl)=>(v,bl)|_=>(aw,[]):=by
 unfold yl;rw[Bo];cases ho:o.op<;>first|exact absurd ho (Sl _ _ _)|rfl
theorem aaO{es:Es}{i:Nat}{o:cO}{ch:List (Nat × Bool)}(Sl:∀c a b,o.op≠.pick c a b):okO P base C es i o ch=((match uT o.op with | some l=>l.all (Tt base es ch) | none=>false)&&(match mF C.hs i with | some _=>true | none=>match IC P base C es i o with | some (.value _,bl)=>(qO C i).isSome||bl.isEmpty | _=>false)):=by
 unfold okO;cases ho:o.op<;>first|exact absurd ho (Sl _ _ _)|rfl
theorem aay{Wp:List Nat->j6->ak->Prop}{Y:mQ}{G:Nat->iT Next->ak->aj->Prop}{T:ak->ak->Prop}(L:xq aP Wp Y)(Xm:∀w w',S w->T w w'->S w')(SA:∀w,T w w)
  {i:Nat} {o:cO} (ho:aP[i]?=some o) (hn:mF C.hs i=none->∀s w v,s.run P w=.ok (.value v) w->G i s w v)
  (hY:∀ev w v R,S w->(∀w',S w'->G i (bY ev o) w' v)->(∀w',T w w'->R v w')->Y o ev w R) (hm:nO S C.mem)
  {es:Es} {a:j6} {w:ak} {rest:List Nat} (hi:Nz base n a0 es a) (hS:S w) (h1:Vw aP base C es o=true) (h2:∀ch,SH aP C es o=some ch->okO P base C es i o ch=true) (h3:QH n es (sI P aP base C es i o) o=true)
  (h4:∀b∈(sI P aP base C es i o).2.2,b=((qO C i).map (·.1)).getD 0) (h5:∀v,mF C.hs i=some v->∀w,S w->jZ base es (sI P aP base C es i o).1=true->G i (bY (qW base es) o) w v)
  (hk:∀a w,S w->Nz base n a0 (Og P aP base C es i o) a->Wp rest a w):Wp (i::rest) a w:=by
 have go:∀ch,SH aP C es o=some ch->jZ base es ch=true->cU o (j8 aP a.tmps)=true->Wp (i::rest) a w:=fun ch hgd mA hw=>by
  have vq:=h2 ch hgd;have hse:sI P aP base C es i o=(ch,yl P base C es i o):=by unfold sI;rw[hgd]
  have hput:∀w',T w w'->∀u,u=(yl P base C es i o).1->Wp rest (a.put o.dst u) w':=fun w' ht u hu=>hk _ _ (Xm _ _ hS ht) (Qo hi h3 fun d _=>by
   rw[hse];show u=NN (jZ base es ch) (yl P base C es i o).1
   rw[mA,hu];rfl)
  have hop:∀ {ch':List (Nat × Bool)} {x:bI},jZ base es ch'=true->Tt base es ch' x=true->a.eval x=qW base es x:=fun g1 g2=>Zz hi g1 g2
  have fin:(∀w',S w'->G i (bY a.eval o) w' (yl P base C es i o).1)->Wp (i::rest) a w:=fun hg=>
   L.go i rest o a w (fun v w'=>v=(yl P base C es i o).1/\T w w') ho hw (hY _ _ _ _ hS hg fun w' ht=>⟨rfl,ht⟩) fun v w' ⟨e,ht⟩=>hput w' ht v e
  have rest':(∀c a b,o.op≠.pick c a b)->Wp (i::rest) a w:=fun Sl=>by
   have h6:(match uT o.op with | some l=>l.all (Tt base es ch) | none=>false)=true/\(match mF C.hs i with | some _=>true | none=>match IC P base C es i o with | some (.value _,bl)=>(qO C i).isSome||bl.isEmpty | _=>false)=true:=by
    rw[aaO Sl,aJ] at vq;exact vq
   cases hl:uT o.op with
   |none=>rw[hl] at h6;cases h6.1
   |some l=>
    rw[hl] at h6;have hex:bY a.eval o=bY (qW base es) o:=execOp_congr hl fun x hx=>hop mA (aX.1 h6.1 x hx);cases Bo:mF C.hs i with
    |some v=>
     have hv:(yl P base C es i o).1=v:=by unfold yl;rw[Bo]
     refine fin fun w' NM=>?_;rw[hex,hv];exact h5 v Bo w' NM (by rw[hse];exact mA)
    |none=>
     rw[Bo] at h6;cases hlk:IC P base C es i o with
     |none=>rw[hlk] at h6;cases h6.2
     |some nb=>
      obtain⟨nx,bl⟩:=nb;rw[hlk] at h6;cases nx<;>try (cases h6.2;done)
      rename_i v;have hv:yl P base C es i o=(v,bl):=by rw[XB Sl Bo,hlk]
      refine fin fun w' NM=>hn Bo _ _ _ ?_;rw[hv,hex];refine mO hlk fun b Sy=>?_;have h7:=h4 b (by rw[hse,hv];exact Sy);have h8:=h6.2;simp only[] at h8;unfold VY;cases hmm:qO C i with
      |none=>
       rw[hmm] at h8;cases bl with
       |nil=>cases Sy
       |cons _ _=>cases h8
      |some m=>
       rw[hmm] at h7;have h7:b=m.1:=h7;subst h7;unfold qO at hmm;exact hm.get (List.mem_of_getElem? hmm) w' NM
  by_cases Gr:∃c a b,o.op=.pick c a b
  case neg=>exact rest' fun c a b h=>Gr ⟨c,a,b,h⟩
  obtain⟨c,x,y,Bl⟩:=Gr;unfold okO at vq;rw[Bl] at vq;simp only[aJ] at vq;obtain⟨⟨hnone,abg⟩,sD⟩:=vq;have Bo:mF C.hs i=none:=by simpa using hnone
  have OV:=hop mA abg;cases J8:aaZ C c with
  |some t=>
   rw[J8] at sD
   have hv:(yl P base C es i o).1=if t then qW base es x else qW base es y:=by
    unfold yl;rw[Bo,Bl];simp only[J8];cases t<;>rfl
   cases t with
   |true=>
    rw[aJ] at sD;refine fin fun w' NM=>hn Bo _ _ _ ?_;rw[hv,rM Bl (OV.trans (oH.1 sD.1)),if_pos rfl,if_pos rfl,hop mA sD.2]
   |false=>
    rw[aJ] at sD;refine fin fun w' NM=>hn Bo _ _ _ ?_;rw[hv,rM Bl (OV.trans (oH.1 sD.1)),if_neg sM,if_neg sM,hop mA sD.2]
  |none=>
   rw[J8] at sD;simp only[aJ] at sD;obtain⟨⟨⟨⟨g1,g2⟩,g3⟩,g4⟩,g5⟩:=sD
   have hv:(yl P base C es i o).1=bools (qW base es c) (qW base es x) (qW base es y):=by
    unfold yl;rw[Bo,Bl];simp only[J8]
   have ib:∀ {v:aj},isBool v=true->∃x,v=.bool x:=fun {v} h=>by cases v<;>first|exact⟨_,rfl⟩|cases h
   obtain⟨t,ht⟩:=ib g1;obtain⟨x',hx⟩:=ib g2;obtain⟨y',hy⟩:=ib g3
   have hw2:∀q,t=q->jZ base es (PX c q ch)=true:=fun q hq=>by
    unfold PX;cases c<;>simp only[]<;>try exact mA
    unfold jZ at mA ⊢;rw[dX,mA,ht,hq];cases q<;>rfl
   refine fin fun w' NM=>hn Bo _ _ _ ?_;rw[hv,rM Bl (OV.trans ht),ht,hx,hy];cases t with
   |true=>rw[if_pos rfl,hop (hw2 true rfl) g4,hx];rfl
   |false=>rw[if_neg sM,hop (hw2 false rfl) g5,hy];rfl
 cases hgd:o.guard with
 |none=>exact go [] (by unfold SH;rw[hgd]) rfl (by simp[cU,hgd])
 |some jb=>
  obtain⟨j,b⟩:=jb;unfold Vw at h1;rw[hgd] at h1;simp only[] at h1;cases NK:eo aP j with
  |none=>rw[NK] at h1;cases h1
  |some g=>
   rw[NK] at h1;simp only[aJ] at h1;obtain⟨hkn,hlt⟩:=h1
   have hval:a.eval (.tmp g)=NN (jZ base es (S8 es g)) (qW base es (.tmp g)):=by
    unfold S8;rw[D7];cases rA:mF es g with
    |some e=>exact hi.ent g e rA
    |none=>
     rw[rA] at hkn;cases hb:mF base g with
     |none=>rw[hb] at hkn;cases hkn
     |some v=>rw[hi.bas g v rA hb];rfl
   have UZ:=Lb (a:=a) hgd NK
   have skip:sI P aP base C es i o=([],aw,[])\/jZ base es (sI P aP base C es i o).1=false->¬a.eval (.tmp g)=.bool b->Wp (i::rest) a w:=fun hs hne=>
    L.no i rest o a w ho (fun h=>hne (UZ.1 h)) (hk _ _ hS (Qo hi h3 fun d _=>by
     rcases hs with hs|hs
     .rw[hs];rfl
     rw[hs];rfl))
   cases rA:mF C.lits g with
   |some b'=>
    rw[rA] at hlt;rw[oH.1 hlt] at hval
    by_cases qu:b'=b
    .subst qu;have xA:SH aP C es o=some (S8 es g):=by unfold SH;rw[hgd];simp only[NK,rA];simp
     cases hcc:jZ base es (S8 es g) with
     |true=>rw[hcc] at hval;exact go _ xA hcc (UZ.2 hval)
     |false=>rw[hcc] at hval;exact skip (.inr (by unfold sI;rw[xA];exact hcc)) (by rw[hval];simp[NN,aw])
    .have xA:SH aP C es o=none:=by
      unfold SH;rw[hgd];simp only[NK,rA];have:(b'==b)=false:=beq_false_of_ne qu;rw[this];rfl
     refine skip (.inl (by unfold sI;rw[xA])) ?_;rw[hval];cases jZ base es (S8 es g) with
     |true=>simp[NN];exact qu
     |false=>simp[NN,aw]
   |none=>
    have xA:SH aP C es o=some ((g,b)::S8 es g):=by unfold SH;rw[hgd];simp only[NK,rA]
    have hca:jZ base es ((g,b)::S8 es g)=(OJ (qW base es (.tmp g)) b&&jZ base es (S8 es g)):=by unfold jZ;rw[dX]
    cases hcc:jZ base es (S8 es g) with
    |false=>rw[hcc] at hval;exact skip (.inr (by unfold sI;rw[xA];show jZ base es ((g,b)::S8 es g)=false;rw[hca,hcc,Bool.and_false])) (by rw[hval];simp[NN,aw])
    |true=>
     rw[hcc] at hval;have hval:a.eval (.tmp g)=qW base es (.tmp g):=hval;cases hib:OJ (qW base es (.tmp g)) b with
     |true=>exact go _ xA (by rw[hca,hcc,hib];rfl) (UZ.2 (hval.trans (oH.1 hib)))
     |false=>
      refine skip (.inr (by unfold sI;rw[xA];show jZ base es ((g,b)::S8 es g)=false;rw[hca,hib];rfl)) fun h=>?_;have h9:=oH.2 (hval.symm.trans h);rw[hib] at h9;cases h9
theorem P1{Wp:List Nat->j6->ak->Prop}{Y:mQ}{G:Nat->iT Next->ak->aj->Prop}{T:ak->ak->Prop}(L:xq aP Wp Y)(Xm:∀w w',S w->T w w'->S w')(SA:∀w,T w w)
  (hn:∀i,mF C.hs i=none->∀s w v,s.run P w=.ok (.value v) w->G i s w v)
  (hY:∀i o ev w v R,S w->(∀w',S w'->G i (bY ev o) w' v)->(∀w',T w w'->R v w')->Y o ev w R) (hm:nO S C.mem) {rest:List Nat} :
  ∀(l:List cO) (i:Nat) (es:Es) (a:j6) (w:ak),(∀j o,l[j]?=some o->aP[i+j]?=some o)->Y4 P aP base C n i l es=true->Yh P aP base C i l es=Yg P aP base C i l es->
  (∀j v,mF C.hs (i+j)=some v->j<l.length->∀w,S w->jZ base (GQ P aP base C i (l.take j) es) (sI P aP base C (GQ P aP base C i (l.take j) es) (i+j) (opAt aP (i+j))).1=true->G (i+j) (bY (qW base (GQ P aP base C i (l.take j) es)) (opAt aP (i+j))) w v)->
  Nz base n a0 es a->S w->(∀a w,S w->Nz base n a0 (GQ P aP base C i l es) a->Wp rest a w)->Wp (bN i l.length++rest) a w
 |[],i,es,a,w,_,_,_,_,hi,hS,hk=>hk a w hS hi
 |o::l,i,es,a,w,hat,hck,Sn,hh,hi,hS,hk=>by
  have ho:aP[i]?=some o:=hat 0 o rfl;have hoa:opAt aP i=o:=by unfold opAt;simp[List.getD,ho]
  unfold Y4 at hck;rw[aJ,aJ,aJ] at hck;unfold Yh Yg at Sn;rw[A2] at Sn;show Wp (i::(bN (i+1) l.length++rest)) a w;refine aay L Xm SA ho (hn i) (hY i o) hm hi hS hck.1.1.1 (fun ch hg=>by have:=hck.1.1.2;rw[hg] at this;exact this) hck.1.2 (fun b hb=>?_) (fun v hv w' NM hc=>?_) fun a' w' NM hi'=>?_
  .rw[Sn.1] at hb;obtain⟨_,_,rfl⟩:=dn.1 hb;rfl
  .have:=hh 0 v hv sM w' NM;rw[Nat.add_zero,hoa] at this;exact this hc
  refine P1 L Xm SA hn hY hm l (i+1) _ a' w' (fun j o' hj=>?_) hck.2 Sn.2 (fun j v hv hj w2 SB hc=>?_) hi' NM hk
  .have:=hat (j+1) o' (by simpa using hj);rwa [show i+1+j=i+(j+1) by omega]
  have:=hh (j+1) v (by rwa [show i+(j+1)=i+1+j by omega]) (by simpa using hj) w2 SB;rw[show i+(j+1)=i+1+j by omega] at this;exact this hc
theorem JD{Wp:List Nat->j6->ak->Prop}{Y:mQ}{G:Nat->iT Next->ak->aj->Prop}{T:ak->ak->Prop}(L:xq aP Wp Y)(Xm:∀w w',S w->T w w'->S w')(SA:∀w,T w w)
  (hn:∀i,mF C.hs i=none->∀s w v,s.run P w=.ok (.value v) w->G i s w v)
  (hY:∀i o ev w v R,S w->(∀w',S w'->G i (bY ev o) w' v)->(∀w',T w w'->R v w')->Y o ev w R)
  {dE:List (jR × aj)} {i k m:Nat} {outs:List (jR × aj)} {W:ak} (hF:gw n a0 base) (hF2:gw n a0 dE) (hr:vT P aP base C n dE i k outs=vS P aP base C i k outs) (hS:S W) (hm:nO S C.mem) (hh:TF P aP base C G S i C.hs)
  (hy:sX (fun l=>∀a w,S w->gw n a l->Wp (bN (i+k) m) a w) outs dE):Wp (bN i (k+m)) a0 W:=by
 unfold vT vS at hr;rw[iq,iq,aJ,aJ] at hr;obtain⟨⟨⟨hsz,hb2⟩,hck⟩,Sn,hout⟩:=hr;have hsz:=Nat.le_of_ble_eq_true hsz;have hlen:(Ao aP i k).length=k:=by unfold Ao;simp;omega
 have hcut:∀j o,(Ao aP i k)[j]?=some o->aP[i+j]?=some o:=fun j o h=>by
  unfold Ao at h;rw[List.getElem?_take] at h;split at h
  .rw[List.getElem?_drop] at h;simpa using h
  cases h
 have key:=P1 (rest:=bN (i+k) m) (a0:=a0) L Xm SA hn hY hm (Ao aP i k) i [] a0 W hcut hck Sn (fun j v hv hj w hSw=>?_) ⟨hF.size,hF.defers,(fun t e h=>by cases h),(fun t v _ h=>E_ hF.base h),fun _ _=>rfl⟩ hS fun a w hSw hi=>?_
 .rw[hlen] at key;rwa [List.range'_append_1] at key
 .have:=hh.get (zY hv) w hSw
  have e:MZ P aP base C i (i+j)=GQ P aP base C i ((Ao aP i k).take j) []:=by
   unfold MZ Ao;rw[List.take_take,show i+j-i=j by omega,Nat.min_eq_left (by rw[hlen] at hj;omega)]
  simp only[e] at this;exact this
 .refine hy.get a w hSw (gw.rev ?_)
  have Vc:gw n a dE:=by
   refine⟨hi.size,hi.defers,hF2.base.congr fun p hp=>hi.keep _ ?_⟩;have:=aX.1 hb2 p hp;simpa using this
  refine⟨Vc.size,Vc.defers,?_⟩;clear hy
  induction outs with
  |nil=>exact Vc.base
  |cons p l ih=>
   rw[cV,cV,A2] at hout;refine⟨?_,ih hout.2⟩;have h1:=hout.1;unfold adY at h1;cases he:mF (GQ P aP base C i (Ao aP i k) []) p.1 with
   |none=>rw[he] at h1;cases h1
   |some e=>
    rw[he] at h1;simp only[] at h1;cases hc:e.1 with
    |cons _ _=>rw[hc] at h1;cases h1
    |nil=>
     rw[hc] at h1;have:=hi.ent p.1 e he;rw[hc] at this;rw[this,<-bp h1];rfl
variable{Q:Exit->j6->ak->Prop}
theorem Mb:xq aP (wpOps P aP Q) (Yields P):=
 ⟨fun i rest o a w R ho hw hy hk=>by
  rw[wpOps_cons];exact wpOp_step ho fun K' hK=>by rw[if_pos hw];exact hy.wp fun v w' hv=>hK _ _ (hk v w' hv),
 fun i rest o a w ho hw hk=>by
  rw[wpOps_cons]
  exact wpOp_step ho fun K' hK=>by rw[if_neg hw];exact hK _ _ hk⟩
theorem jr(i k m:Nat)(C:Cf)(outs:List (jR × aj)){dE:List (jR × aj)}{W:ak}(hF:gw n a0 base)(hF2:gw n a0 dE)(hm:nO (fun w=>Bw W w) C.mem)(hh:TF P aP base C (fun _=>lY P) (fun w=>Bw W w) i C.hs)(hy:sX (fun l=>∀a w,Bw W w->gw n a l->wpOps P aP Q (bN (i+k) m) a w) outs dE)(hr:vT P aP base C n dE i k outs=vS P aP base C i k outs:=by kernel_rfl):wpOps P aP Q (bN i (k+m)) a0 W:=
 JD (T:=fun w w'=>Bw w w') Mb (fun _ _ h hb=>h.trans (hb.mono h.size)) (fun w=>aB _ _) (fun i _ s w v h=>gr h) (fun i o ev w v R hS hg hR=>(hg w hS).yields hR) hF hF2 hr (aB _ _) hm hh hy
section
variable{id:Nat}{y:Code}{W:ak}{dE:List (jR × aj)}
theorem lT{N:Nat}(hN:aP.size=N)(h:wpOps P aP (Exit.then (fun a w=>y.wp P Q a w) Q) (bN 0 N) a0 W):(Code.seq (.region id aP false) y).wp P Q a0 W:=
 wp_seq (wp_region (by rw[ng,hN];exact h))
theorem VX{N:Nat}(hN:aP.size=N)(h:wpOps P aP Q (bN 0 N) a0 W):(Ch id aP false).wp P Q a0 W:=
 wp_region (by rw[ng,hN];exact h)
theorem mC{i:Nat}(h:y.wp P Q a0 W):wpOps P aP (Exit.then (fun a w=>y.wp P Q a w) Q) (bN i 0) a0 W:=h
theorem aah{i:Nat}(h:Q .normal a0 W):wpOps P aP Q (bN i 0) a0 W:=h
theorem wF(C:Cf)(outs:List (jR × aj))(hF:gw n a0 base)(hF2:gw n a0 dE)(hm:nO (fun w=>Bw W w) C.mem)(hh:TF P aP base C (fun _=>lY P) (fun w=>Bw W w) 0 C.hs)(hy:sX (fun l=>∀a w,Bw W w->gw n a l->y.wp P Q a w) outs dE)(hr:vT P aP base C n dE 0 aP.size outs=vS P aP base C 0 aP.size outs:=by kernel_rfl):(Code.seq (.region id aP false) y).wp P Q a0 W:=
 lT rfl (jr (hr:=hr) 0 aP.size 0 C outs hF hF2 hm hh (by
  rw[dh]
  exact hy))
theorem fP(outs:List (jR × aj))(hF:gw n a0 base)(hy:sX (fun l=>∀a w,fV W.heap.size W w->gw n a l->y.wp P Q a w) outs base)(hr:vT P aP base ⟨[],[],[],[]⟩ n base 0 aP.size outs=vS P aP base ⟨[],[],[],[]⟩ 0 aP.size outs:=by kernel_rfl):(Code.seq (.region id aP false) y).wp P Q a0 W:=wF ⟨[],[],[],[]⟩ outs hF hF trivial trivial hy hr
theorem jU(i k m:Nat)(outs:List (jR × aj)){W:ak}(hF:gw n a0 base)(hy:sX (fun l=>∀a w,fV W.heap.size W w->gw n a l->wpOps P aP Q (bN (i+k) m) a w) outs base)(hr:vT P aP base ⟨[],[],[],[]⟩ n base i k outs=vS P aP base ⟨[],[],[],[]⟩ i k outs:=by kernel_rfl):wpOps P aP Q (bN i (k+m)) a0 W:=jr i k m ⟨[],[],[],[]⟩ outs hF hF trivial trivial hy hr
theorem KS(C:Cf)(outs:List (jR × aj))(hF:gw n a0 base)(hF2:gw n a0 dE)(hm:nO (fun w=>Bw W w) C.mem)(hh:TF P aP base C (fun _=>lY P) (fun w=>Bw W w) 0 C.hs)(hy:sX (fun l=>∀a w,Bw W w->gw n a l->Q .normal a w) outs dE)(hr:vT P aP base C n dE 0 aP.size outs=vS P aP base C 0 aP.size outs:=by kernel_rfl):(Ch id aP false).wp P Q a0 W:=
 VX rfl (jr (hr:=hr) 0 aP.size 0 C outs hF hF2 hm hh (by
  rw[dh]
  exact hy))
theorem sX.mono{K K':List (jR × aj)->Prop}(h:∀l,K l->K' l):∀ {r l:List (jR × aj)},sX K r l->sX K' r l
 |[],l,hk=>h l hk
 |p::r,l,hk=>sX.mono h (r:=r) hk
end
def zu(P:aN)(aP:Array cO)(base:List (jR × aj))(C:Cf)(n:Nat)(dE:List (jR × aj))(i:Nat)(d:Option jR):Bool:=
 Nat.blt i aP.size&&Vw aP base C [] (opAt aP i)&&(match SH aP C [] (opAt aP i) with|some []=>true|_=>false)&&(match uT (opAt aP i).op with|some l=>l.all (Tt base [] [])|none=>false) &&
  (match (opAt aP i).dst,d with|some x,some y=>Gx x y&&Nat.blt y n&&dE.all fun p=>!Nat.beq p.1 y|none,none=>true|_,_=>false)
def fj:Option jR->aj->List (jR × aj)->List (jR × aj)
 |some d,v,l=>(d,v)::l
 |none,_,l=>l
theorem Jj{Wp:List Nat->j6->ak->Prop}{Y:mQ}(L:xq aP Wp Y){dE:List (jR × aj)}{i m:Nat}{d:Option jR}{W:ak}{R:aj->ak->Prop}(hF:gw n a0 base)(hF2:gw n a0 dE)(hc:zu P aP base C n dE i d=true)
  (hY:∀ev,bY ev (opAt aP i)=bY (qW base []) (opAt aP i)->Y (opAt aP i) ev W R) (hk:∀v w,R v w->∀a,gw n a (fj d v dE)->Wp (bN (i+1) m) a w):Wp (bN i (m+1)) a0 W:=by
 unfold zu at hc;simp only[aJ] at hc;obtain⟨⟨⟨⟨h1,h2⟩,h3⟩,h4⟩,h5⟩:=hc;have hi:i<aP.size:=by unfold Nat.blt at h1;exact Nat.le_of_ble_eq_true h1
 have ho:aP[i]?=some (opAt aP i):=by unfold opAt;simp[List.getD,hi]
 generalize opAt aP i=o at *;have hinv:Nz base n a0 [] a0:=⟨hF.size,hF.defers,(fun t e h=>by cases h),(fun t v _ h=>E_ hF.base h),fun _ _=>rfl⟩
 have hex:bY a0.eval o=bY (qW base []) o:=by
  cases hl:uT o.op with
  |none=>rw[hl] at h4;cases h4
  |some l=>
   rw[hl] at h4;exact execOp_congr hl fun x hx=>Zz hinv (ch:=[]) rfl (aX.1 h4 x hx)
 have hw:cU o (j8 aP a0.tmps)=true:=by
  unfold cU;cases hgd:o.guard with
  |none=>rfl
  |some jb=>
   obtain⟨j,b⟩:=jb;unfold Vw at h2;unfold SH at h3;rw[hgd] at h2 h3;simp only[] at h2 h3;cases NK:eo aP j with
   |none=>rw[NK] at h2;cases h2
   |some g=>
    rw[NK] at h2 h3;simp only[aJ] at h2 h3
    have hval:a0.eval (.tmp g)=qW base [] (.tmp g):=by
     rw[D7];show _=(mF base g).getD aw;cases hb:mF base g with
     |none=>have:=h2.1;rw[hb] at this;cases this
     |some v=>rw[hinv.bas g v rfl hb];rfl
    cases rA:mF C.lits g with
    |none=>rw[rA] at h3;cases h3
    |some b'=>
     rw[rA] at h2 h3
     by_cases qu:b'=b
     .subst qu;rw[oH.1 h2.2] at hval;have h9:=(Lb (a:=a0) hgd NK).2 hval;unfold cU at h9;rw[hgd] at h9;exact h9
     have:(b'==b)=false:=beq_false_of_ne qu;simp only[this] at h3;cases h3
 rw[List.range'_succ];refine L.go i _ o a0 W R ho hw (hY _ hex) fun v w hv=>hk v w hv _ ?_;cases hdd:o.dst with
 |none=>
  rw[hdd] at h5;cases d with
  |some _=>cases h5
  |none=>exact hF2
 |some x=>
  rw[hdd] at h5;cases d with
  |none=>cases h5
  |some y=>
   simp only[aJ] at h5;have hxy:=iC h5.1.1;subst hxy;have hlt:x<n:=by have:=h5.1.2;unfold Nat.blt at this;exact Nat.le_of_ble_eq_true this
   exact(hF2.put x v h5.2).cons (put_eq a0 x v (by rw[hF.size];exact hlt))
section
variable{dE:List (jR × aj)}{i m:Nat}{W:ak}
theorem Yields.ex{o:cO}{ev FC:bI->aj}{w:ak}{R:aj->ak->Prop}(he:bY ev o=bY FC o)(h:Yields P o FC w R):Yields P o ev w R:=by
 unfold Yields at *;rw[he];exact h
theorem Ur(C:Cf)(d:Option jR){R:aj->ak->Prop}(hF:gw n a0 base)(hF2:gw n a0 dE)(hc:zu P aP base C n dE i d=true)(hY:Yields P (opAt aP i) (qW base []) W R)
  (hk:∀v w,R v w->∀a,gw n a (fj d v dE)->wpOps P aP Q (bN (i+1) m) a w):wpOps P aP Q (bN i (m+1)) a0 W:=
 Jj Mb hF hF2 hc (fun ev he=>hY.ex he) hk
theorem acJ(C:Cf)(d:Option jR){f:FuncId}{args:Array aj}{Φ:Ending->ak->Prop}(hF:gw n a0 base)(hF2:gw n a0 dE)(hc:bm P f args W Φ)(hk:∀e w,Φ e w->∃v,e=.returned v/\∀a,gw n a (fj d v dE)->wpOps P aP Q (bN (i+1) m) a w)(he:(zu P aP base C n dE i d,look P #[] (bY (qW base []) (opAt aP i)))=(true,some (.enter f args,[])):=by kernel_rfl):wpOps P aP Q (bN i (m+1)) a0 W:=by
 rw[iq] at he;exact Ur C d (R:=fun v w=>∀a,gw n a (fj d v dE)->wpOps P aP Q (bN (i+1) m) a w) hF hF2 he.1 (.call (mO he.2 sM) hc fun e w h=>hk e w h) fun v w h=>h
def UA(P:aN)(r:Nat):iT Next->Option (Array aj × a7 × Nat × Nat × Option (Next × List Nat))
 |.new o k=>match o with
  |.cells cs t fr=>some (cs,t,fr.1,fr.2,look P #[] (k r))
  |_=>none
 |.program k=>UA P r (k P)
 |_=>none
theorem Qk{P:aN}{s:iT Next}{cs:Array aj}{t:a7}{v:aj}{w:ak}(h:UA P w.heap.size s=some (cs,t,0,0,some (.value v,[]))):s.run P w=.ok (.value v) (w.alloc (.cells cs t)):=by
 induction s with
 |new o k _=>
  unfold UA at h;cases o with
  |cells cs' t' fr=>
   obtain⟨f1,f2⟩:=fr;simp only[ia,iq] at h;obtain⟨rfl,rfl,rfl,rfl,h5⟩:=h
   conv=>lhs;unfold Sem.run
   exact mO h5 sM
  |_=>cases h
 |program k ih=>exact ih P h
 |_=>cases h
theorem kq(C:Cf)(d:Option jR)(vf:Nat->aj)(cs:Array aj)(t:a7)(hF:gw n a0 base)(hF2:gw n a0 dE)(hk:∀B w a,W.heap.size<=B->Bw W w->w.heap[B]?=some (.cells cs t (0,0))->gw n a (fj d (vf B) dE)->wpOps P aP Q (bN (i+1) m) a w)(hc:zu P aP base C n dE i d=true:=by kernel_rfl)(he:∀r,UA P r (bY (qW base []) (opAt aP i))=some (cs,t,0,0,some (.value (vf r),[])):=by intro r;kernel_rfl):wpOps P aP Q (bN i (m+1)) a0 W:=
 Ur C d (R:=fun v w=>∃B,v=vf B/\W.heap.size<=B/\Bw W w/\w.heap[B]?=some (.cells cs t (0,0))) hF hF2 hc (.value (Qk (he _)) ⟨_,rfl,aO _,dx,az _ _⟩)
  fun v w ⟨B,e,h1,h2,h3⟩ a hl=>hk B w a h1 h2 h3 (e▸hl)
def stores(P:aN):iT Next->Option (List (Nat × Nat × aj))
 |.pure .skip=>some []
 |.program k=>stores P (k P)
 |.store _ a v k=>match a.spot,v with
  |some _,_=>none
  |_,.agg _=>none
  |_,.tuple _=>none
  |none,v=>match stores P k with
   |some l=>some ((a.block,a.off,v)::l)
   |none=>none
 |_=>none
def yz(cs:Array aj):List (Nat × Nat × aj)->Array aj
 |[]=>cs
 |p::l=>yz (cs.setIfInBounds p.2.1 p.2.2) l
structure Zt(B:Nat)(w w':ak):Prop where
 os:w'.os=w.os
 tape:w'.tape=w.tape
 output:w'.output=w.output
 size:w'.heap.size=w.heap.size
 block:∀k,k≠B->w'.heap[k]?=w.heap[k]?
theorem Zt.below{B m:Nat}{V w w':ak}(h:Zt B w w')(ho:fV m V w)(hB:m<=B):fV m V w':=⟨h.os.trans ho.os,h.tape.trans ho.tape,h.output.trans ho.output,by rw[h.size];exact ho.size,fun k hk=>(h.block k oM).trans (ho.block k hk)⟩
theorem NZ{P:aN}{B:Nat}{t:a7}{s:iT Next}:∀ {l:List (Nat × Nat × aj)} {cs:Array aj} {w:ak},stores P s=some l->(∀p∈l,p.1=B/\p.2.1<cs.size)->w.heap[B]?=some (.cells cs t (0,0))->
  ∃w',s.run P w=.ok .skip w'/\w'.heap[B]?=some (.cells (yz cs l) t (0,0))/\Zt B w w':=by
 induction s with
 |pure x=>intro l cs w h _ hB;cases x<;>cases h;exact⟨w,rfl,hB,rfl,rfl,rfl,rfl,fun _ _=>rfl⟩
 |program k ih=>intro l cs w h hl hB;exact ih P h hl hB
 |store m a v k ih=>
  intro l cs w h hl hB;unfold stores at h
  have main:∀v:aj,(∀x,v≠.agg x)->(∀x,v≠.tuple x)->a.spot=none->(match stores P k with|some l=>some ((a.block,a.off,v)::l)|none=>none)=some l->∃w',(Sem.store m a v k).run P w=.ok .skip w'/\w'.heap[B]?=some (.cells (yz cs l) t (0,0))/\Zt B w w':=fun v n1 n2 hs h=>by
   cases hk:stores P k with
   |none=>rw[hk] at h;cases h
   |some l'=>
    rw[hk] at h;cases h;obtain⟨h1,h2⟩:=hl _ (dF ..);simp only[] at h1 h2;obtain⟨b,off,sp⟩:=a;simp only[] at h1 h2 hs;subst h1 hs;have hc:w.cell? ⟨b,off,none⟩=some cs[off]:=aK hB off _ (aQ h2);obtain⟨w',g1,g2,g3⟩:=ih (cs:=cs.setIfInBounds off v) (w:=w.setCell ⟨b,off,none⟩ v) hk (fun p hp=>by simpa using hl p (bT _ hp)) (dc v hB);refine⟨w',?_,g2,g3.os,g3.tape,g3.output,by rw[g3.size];simp,fun k hk=>(g3.block k hk).trans (bu w ⟨b,off,none⟩ v k hk)⟩;rw[<-g1];have hf:w.frozen? ⟨b,off,none⟩=false:=cZ hB off;cases v<;>first|exact absurd rfl (n1 _)|exact absurd rfl (n2 _)|(conv=>lhs;unfold Sem.run;simp only[hc,hf,bG,if_false])
  cases hs:a.spot with
  |some _=>rw[hs] at h;cases h
  |none=>
   rw[hs] at h;cases v<;>first|(cases h;done)|exact main _ sM sM hs h
 |_=>intro l cs w h;cases h
theorem Ua(C:Cf){B:Nat}(cs cs':Array aj){t:a7}(hB:W.heap[B]?=some (.cells cs t (0,0)))(l:List Nat)
  (he:(zu P aP base C n dE i none,(stores P (bY (qW base []) (opAt aP i))).map fun q=>(q.map (·.1),(q.all fun p=>Nat.blt p.2.1 cs.size),yz cs q))=(true,some (l.map fun _=>B,true,cs'))) :
  zu P aP base C n dE i none=true/\∀w,w.heap[B]?=some (.cells cs t (0,0))->∃w',(bY (qW base []) (opAt aP i)).run P w=.ok .skip w'/\w'.heap[B]?=some (.cells cs' t (0,0))/\Zt B w w':=by
 rw[iq] at he;refine⟨he.1,fun w hw=>?_⟩;cases hs:stores P (bY (qW base []) (opAt aP i)) with
 |none=>rw[hs] at he;cases he.2
 |some q=>
  rw[hs] at he;have h2:=he.2;simp only[Option.map_some,ia,iq] at h2;obtain⟨h3,h4,h5⟩:=h2;subst h5;refine NZ hs (fun p hp=>⟨?_,?_⟩) hw
  .have:p.1∈q.map (·.1):=dn.2 ⟨p,hp,rfl⟩;rw[h3] at this;obtain⟨_,_,e⟩:=dn.1 this;exact e.symm
  have:=aX.1 h4 p hp;unfold Nat.blt at this;exact Nat.le_of_ble_eq_true this
theorem rL(C:Cf){B:Nat}(cs cs':Array aj){t:a7}(l:List Nat)(hF:gw n a0 base)(hF2:gw n a0 dE)(hB:W.heap[B]?=some (.cells cs t (0,0)))(hk:∀w a,Zt B W w->w.heap[B]?=some (.cells cs' t (0,0))->gw n a dE->wpOps P aP Q (bN (i+1) m) a w)(he:(zu P aP base C n dE i none,(stores P (bY (qW base []) (opAt aP i))).map fun q=>(q.map (·.1),(q.all fun p=>Nat.blt p.2.1 cs.size),yz cs q))=(true,some (l.map fun _=>B,true,cs')):=by kernel_rfl):wpOps P aP Q (bN i (m+1)) a0 W:=by
 obtain⟨h1,h2⟩:=Ua C cs cs' hB l he;obtain⟨w',g1,g2,g3⟩:=h2 W hB;exact Ur C none (R:=fun v w=>Zt B W w/\w.heap[B]?=some (.cells cs' t (0,0))) hF hF2 h1 (.skip g1 ⟨g3,g2⟩) fun v w h a hl=>hk w a h.1 h.2 hl
end
end
end Go.Lag
namespace Go.Proofs.YtffladgmkiimjaaGreatDoor
open Go.RowKit Go.Lag
def O8(b:BB)(p1 p2 p3:Option cX)(n1 c1 n2 c2 n3 c3:Nat)(hbig:20<n1\/20<n2\/20<n3)(w:ak):bm aq 18 #[aR (b.sl p1 n1 c1 p2 n2 c2 p3 n3 c3)] w (Rt w (aI true)):=by
 refine mP Tryz.func18 rfl rfl [(0,aR (b.sl p1 n1 c1 p2 n2 c2 p3 n3 c3))] ⟨jg rfl,trivial⟩ fun a W hF hw=>?_;refine lT (N:=2) rfl ?_;refine kq ⟨[],[],[],[]⟩ (some 1) (fun B=>pv B 0) (b.sl p1 n1 c1 p2 n2 c2 p3 n3 c3) 28 hF hF ?_;intro B1 W a G1 ho K1 hF;have aj7:=aF hw.size G1;replace hw:=hw.tr ho;rename ak=>W1;have h1:=aB W1.heap.size W1;refine jU 1 1 0 [(2,aI false)] hF ?_;intro a W ho hF;replace h1:=h1.tr ho;refine mC ?_;refine wp_seq ?_;refine wF ⟨[],[],[(B1,(b.sl p1 n1 c1 p2 n2 c2 p3 n3 c3))],[]⟩ [(19,aI (((decide ((n1:Int)>20))||(decide ((n2:Int)>20)))||(decide ((n3:Int)>20))))] hF hF ⟨fun w1 hS=>⟨_,_,aA K1 (h1.tr hS)⟩,trivial⟩ trivial ?_;intro a W ho hF;replace h1:=h1.tr ho;refine wp_cond_split (t:=(((decide ((n1:Int)>20))||(decide ((n2:Int)>20)))||(decide ((n3:Int)>20)))) (hF.g 0 rfl) (fun O3=>?_) (fun O3=>?_)
 .replace hF:=hF.tl;replace hF:=hF.tl;refine fP [(2,aI true)] hF ?_;intro a W ho hF;replace h1:=h1.tr ho;refine wp_ret ?_;exact bj (bZ rfl _ _ _) hF.defers ⟨congrArg bA (hF.g 0 rfl),(hw.tr h1)⟩
 replace hF:=hF.tl;exfalso;simp at O3;omega
def VE(b:BB)(p1 p2 p3:Option cX)(n1 c1 n2 c2 n3 c3:Nat)(hbig:20<n1\/20<n2\/20<n3)(w:ak):bm aq 29 #[aR (b.sl p1 n1 c1 p2 n2 c2 p3 n3 c3)] w (Rt w (aI false)):=by
 refine mP Tryz.func29 rfl rfl [(0,aR (b.sl p1 n1 c1 p2 n2 c2 p3 n3 c3))] ⟨jg rfl,trivial⟩ fun a W hF hw=>?_;refine lT (N:=2) rfl ?_;refine kq ⟨[],[],[],[]⟩ (some 1) (fun B=>pv B 0) (b.sl p1 n1 c1 p2 n2 c2 p3 n3 c3) 28 hF hF ?_;intro B1 W a G1 ho K1 hF;have aj7:=aF hw.size G1;replace hw:=hw.tr ho;rename ak=>W1;have h1:=aB W1.heap.size W1;refine jU 1 1 0 [(2,aI false)] hF ?_;intro a W ho hF;replace h1:=h1.tr ho;refine mC ?_;replace hF:=hF.tl;refine wF ⟨[(6,false)],[(1,aI true)],[(B1,(b.sl p1 n1 c1 p2 n2 c2 p3 n3 c3))],[]⟩ [(2,aI false)] hF hF ⟨fun w1 hS=>⟨_,_,aA K1 (h1.tr hS)⟩,trivial⟩ ⟨fun w1 hS _=>gc (O8 b p1 p2 p3 n1 c1 n2 c2 n3 c3 hbig w1),trivial⟩ ?_;intro a W ho hF;replace h1:=h1.tr ho;refine wp_ret ?_;exact bj (bZ rfl _ _ _) hF.defers ⟨congrArg bA (hF.g 0 rfl),(hw.tr h1)⟩
end Go.Proofs.YtffladgmkiimjaaGreatDoor
