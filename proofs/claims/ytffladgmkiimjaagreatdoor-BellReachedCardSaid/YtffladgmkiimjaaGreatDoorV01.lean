/- A REGION RECKONED: what its operations give is computed by the kernel  .. -/
import Derived.Test.YtffladgmkiimjaaGreatDoorV00
import Derived.Deep.Slices
import Derived.RangeFuncNested
import Derived.RangeFuncBound
import Derived.Shelf.RegionOpen
import Derived.LoopNIn
import Derived.LoopIn
import Derived.Maps.OwnIn
set_option linter.all false
set_option maxHeartbeats 0
set_option maxRecDepth 1000000
open Array renaming getElem_modify -> BG,getElem?_eq_getElem -> aO,getD_eq_getD_getElem? -> aY,getElem?_eq_some_iff -> ah,getElem?_eq_none -> fF,replicate_zero -> kj,replicate_succ -> km,toList_map -> vW
open Bool renaming and_eq_true -> aF,false_eq_true -> bE
open Go renaming Program -> aL,TypeId -> aZ,Calls -> a_,Value -> aj,World -> ak,undef -> ar,Operand -> bI,Oper -> cI,execOp -> cu,Sem -> iN,yielded -> j8,Act -> k9,Tmp -> kG,bytes -> sA
open Go.Builtin renaming zeroCells -> fO
open Go.Ending renaming returned -> aU
open Go.IntKind renaming i64 -> af
open Go.Lib renaming hid -> ai
open Go.Obj renaming cells -> au
open Go.Proofs.Tryz renaming prog -> aq,underlying28 -> bL,underlying3 -> dR,underlying122 -> fS
open Go.Region renaming wanted -> cL,binds -> fE
open Go.RowKit renaming Below -> fX
open Go.RowKit.Below renaming heap_alloc -> aW,refl -> ay,heap_setCell -> bp
open Go.Value renaming bool -> aA,int -> aD,agg -> aN,slice -> ae,int -> ag,oneCell' -> bK,pointer -> dB,ownBlock -> ji
open Go.World renaming alloc_heap_new -> ax,putObj_heap_other -> dD,cell? -> dG,size_alloc -> dQ,cell?_alloc_lt -> en,setCell -> ku
open List renaming append_nil -> Au,map_congr_left -> F7,range -> aQ,eq_nil_of_length_eq_zero -> aX,mem_append -> bJ,range' -> bP,mem_range -> bQ,mem_cons_of_mem -> bY,all_eq_true -> bf,map_cons -> cP,take_of_length_le -> cU,mem_cons -> cy,all_cons -> dP,mem_map -> dm,mem_cons_self -> dr,length_cons -> eE,mem_of_mem_take -> fH,append_toArray -> iA,cons_append -> iD,size_toArray -> jG,push_toArray -> jH,nil_append -> jk,getElem?_eq_some_iff -> lj,range_eq_range' -> m5,length_append -> mP,length_nil -> oD
open List.cons renaming injEq -> Ar
open Nat renaming reduceSub -> Da,reduceAdd -> Db,beq -> F6,le_trans -> aG,le_refl -> aJ,lt_of_lt_of_le -> bD,zero_add -> cO,eq_of_beq_eq_true -> iu
open Option.some renaming inj -> a7,injEq -> gP
open Or renaming inl -> cz
open Prod.mk renaming injEq -> g_
namespace Go.Lag
open Go Go.RowKit
def look(P:aL)(cs:Array aj){α:Type}:iN α->Option (α × List Nat)
 |.pure a=>some (a,[])
 |.program k=>look P cs (k P)
 |.load _ a k=>match a.spot,cs[a.off]? with
  |none,some v=>match look P cs (k v) with
   |some (x,l)=>some (x,a.block::l)
   |none=>none
  |_,_=>none
 |_=>none
def mJ{P:aL}{cs:Array aj}{α:Type}{w:ak}{s:iN α}:∀ {a:α} {l:List Nat},look P cs s=some (a,l)->(∀b∈l,∃ty fr,w.heap[b]?=some (.cells cs ty fr))->s.run P w=.ok a w:=by
 induction s with
 |pure x=>intro a l h _;cases h;rfl
 |program k ih=>intro a l h hB;exact ih P h hB
 |load m ad k ih=>
  intro a l h hB;unfold look at h;cases hs:ad.spot with
  |some _=>rw[hs] at h;simp at h
  |none=>
   cases hc:cs[ad.off]? with
   |none=>rw[hs,hc] at h;simp at h
   |some v=>
    rw[hs,hc] at h;simp only[] at h;cases hk:look P cs (k v) with
    |none=>rw[hk] at h;simp at h
    |some x=>
     rw[hk] at h;obtain⟨x,l'⟩:=x;cases h
     have h1:w.cell? ad=some v:=by
      obtain⟨ty,fr,hb⟩:=hB ad.block (by simp);unfold dG;rw[hb,hs];exact hc
     unfold Sem.run;rw[h1];exact ih v hk fun b hb=>hB b (bY _ hb)
 |_=>intro a l h _;cases h
def uz:Op->Option (List bI)
 |.move x|.assign x|.box _ x|.load _ x|.unOp _ _ x|.convert _ _ x|.fieldAddr _ x _|.field _ x _|.extract x _|.nilCheck x|.makeInterface _ x=>some [x]
 |.binOp _ _ x y _|.indexAddr _ x y|.index _ x y|.lookup _ x y _=>some [x,y]
 |.build _ ps|.buildSlice _ _ ps=>some (ps.toList.map (·.2))
 |.alloc _=>some []
 |.store _ x y|.makeSlice _ x y=>some [x,y]
 |.mapUpdate _ x y z=>some [x,y,z]
 |.slice _ x lo hi mx=>some (x::(lo.toList++(hi.toList++mx.toList)))
 |.makeFunc _ xs ys=>some (xs.toList++ys.toList)
 |.call c=>match c.callee with
  |.value f=>some (f::c.args.toList)
  |.builtin _=>some c.args.toList
  |_=>none
 |_=>none
def map_congr{α:Type}{f g:bI->α}{xs:Array bI}(h:∀x∈xs.toList,f x=g x):xs.map f=xs.map g:=by
 apply Array.ext';rw[vW,vW];exact F7 h
def xU{α:Type}{f g:bI->α}{xs:Option bI}(h:∀x∈xs.toList,f x=g x):xs.map f=xs.map g:=by
 cases xs with
 |none=>rfl
 |some x=>simp[h x (by simp)]
def execOp_congr{o:cI}{ev E8:bI->aj}{l:List bI}(hl:uz o.op=some l)(h:∀x∈l,ev x=E8 x):cu ev o=cu E8 o:=by
 unfold cu;cases ho:o.op<;>rw[ho] at hl<;>simp only[uz] at hl<;>try (cases hl;done)
 case call c=>
  cases hc:c.callee<;>rw[hc] at hl<;>simp only[] at hl<;>try (cases hl;done)
  .cases hl;have h1:c.args.map ev=c.args.map E8:=map_congr fun x hx=>h x (bY _ hx);simp only[resolve,hc,h1,h _ (dr ..)]
  cases hl;have h1:c.args.map ev=c.args.map E8:=map_congr h;simp only[resolve,hc,h1]
 case build t ps=>
  cases hl
  have h1:(ps.map fun(x:Nat × bI)=>(x.1,ev x.2))=ps.map fun x=>(x.1,E8 x.2):=by
   apply Array.ext';rw[vW,vW];exact F7 fun x hx=>by rw[h x.2 (dm.2 ⟨x,hx,rfl⟩)]
  simp only[h1]
 case buildSlice t k ps=>
  cases hl
  have h1:(ps.map fun(x:Nat × bI)=>(x.1,ev x.2))=ps.map fun x=>(x.1,E8 x.2):=by
   apply Array.ext';rw[vW,vW];exact F7 fun x hx=>by rw[h x.2 (dm.2 ⟨x,hx,rfl⟩)]
  simp only[h1]
 case slice t x lo hi mx=>
  cases hl;have h1:lo.map ev=lo.map E8:=xU fun x hx=>h x (by simp[hx]);have h2:hi.map ev=hi.map E8:=xU fun x hx=>h x (by simp[hx]);have h3:mx.map ev=mx.map E8:=xU fun x hx=>h x (by simp[hx]);simp only[h1,h2,h3,h x (by simp)]
 case makeFunc fn xs ys=>
  cases hl;have h1:xs.map ev=xs.map E8:=map_congr fun x hx=>h x (by simp at hx ⊢;exact .inl hx);have h2:ys.map ev=ys.map E8:=map_congr fun x hx=>h x (by simp at hx ⊢;exact .inr hx);simp only[h1,h2]
 all_goals
  cases hl
  first
   |rfl
   |(simp only[h _ (dr ..)];done)
   |(simp only[h _ (dr ..),h _ (bY _ (dr ..))];done)
   |(simp only[h _ (dr ..),h _ (bY _ (dr ..)),h _ (bY _ (bY _ (dr ..)))];done)
structure Cf where
 lits:List (Nat × Bool)
 hs:List (Nat × aj)
 mem:List (Nat × Array aj)
 lds:List (Nat × Nat)
def mD{β:Type}:List (Nat × β)->Nat->Option β
 |[],_=>none
 |p::l,i=>bif F6 p.1 i then some p.2 else mD l i
def zA{β:Type}:∀ {l:List (Nat × β)} {i:Nat} {v:β},mD l i=some v->(i,v)∈l
 |p::l,i,v,h=>by
  unfold mD at h;cases hb:F6 p.1 i with
  |true=>
   rw[hb] at h;have:=iu hb;cases h;obtain⟨a,b⟩:=p;cases this;exact dr ..
  |false=>rw[hb] at h;exact bY _ (zA h)
abbrev En:=List (Nat × Bool) × aj × List Nat
def eqT:Option Nat->Nat->Bool
 |some d,t=>F6 d t
 |none,_=>false
def xh(aM:Array cI):List Edge->kG->Option Nat
 |[],_=>none
 |e::l,t=>bif fE .any e&&eqT (d_ aM e.on) t then some e.on else xh aM l t
def xN{aM:Array cI}{t j:Nat}:∀ {l:List Edge},xh aM l t=some j->∃e∈l,e.on=j/\fE .any e=true/\d_ aM j=some t
 |e::l,h=>by
  unfold xh at h;cases hb:(fE .any e&&eqT (d_ aM e.on) t) with
  |true=>
   rw[hb] at h;cases h;rw[aF] at hb;refine⟨e,dr ..,rfl,hb.1,?_⟩;have:=hb.2;cases hd:d_ aM e.on with
   |none=>rw[hd] at this;cases this
   |some d=>rw[hd] at this;rw[iu this]
  |false=>
   rw[hb] at h;obtain⟨e',he,h1⟩:=xN h;exact⟨e',bY _ he,h1⟩
def NP:aj->Bool->Bool
 |.bool true,b=>b
 |.bool false,b=>!b
 |_,_=>false
def oz{v:aj}{b:Bool}:NP v b=true↔v=.bool b:=by
 unfold NP;cases v<;>try simp
 rename_i x;cases x<;>cases b<;>simp
def bools:aj->aj->aj->aj
 |.bool t,.bool x,.bool y=>.bool (bif t then x else y)
 |_,_,_=>ar
def isBool:aj->Bool
 |.bool _=>true
 |_=>false
def subs(a b:List (Nat × Bool)):Bool:=a.all fun p=>b.any fun q=>F6 p.1 q.1&&(p.2==q.2)
section
variable(P:aL)(aM:Array cI)(base:List (kG × aj))(C:Cf)
def opAt(i:Nat):Oper:=(aM.toList).getD i default
def Ct(st:Nat->En)(l:List Edge):bI->aj
 |.const v=>v
 |.global g=>.pointer (some ⟨g,0,none⟩)
 |.func f=>.func (.func f) #[] #[]
 |.tmp t=>match xh aM l t with
  |some j=>(st j).2.1
  |none=>(mD base t).getD ar
def vz(st:Nat->En)(l:List Edge)(ch:List (Nat × Bool)):bI->Bool
 |.tmp t=>match xh aM l t with
  |some j=>subs (st j).1 ch
  |none=>(mD base t).isSome
 |_=>true
def PS(st:Nat->En)(o:cI):Option (List (Nat × Bool)):=
 match o.guard with
 |none=>some []
 |some (j,b)=>match mD C.lits j with
  |some b'=>bif b'==b then some (st j).1 else none
  |none=>some ((j,b)::(st j).1)
def TV(l:List Edge):bI->Option Bool
 |.tmp t=>(xh aM l t).bind (mD C.lits)
 |_=>none
def O5(l:List Edge)(c:bI)(b:Bool)(ch:List (Nat × Bool)):List (Nat × Bool):=
 match c with
 |.tmp t=>match xh aM l t with
  |some j=>(j,b)::ch
  |none=>ch
 |_=>ch
def qB(i:Nat):Option (Nat × Array aj):=C.mem[(mD C.lds i).getD 0]?
def Va(i:Nat):Array Value:=match qB C i with|some m=>m.2|none=>#[]
def Ex(st:Nat->En)(i:Nat)(o:cI):Option (Next × List Nat):=look P (Va C i) (cu (Ct aM base st o.after.toList) o)
def xK(st:Nat->En)(i:Nat)(o:cI):aj × List Nat:=
 match mD C.hs i with
 |some v=>(v,[])
 |none=>match o.op with
  |.pick c a b=>(match TV aM C o.after.toList c with
   |some true=>Ct aM base st o.after.toList a
   |some false=>Ct aM base st o.after.toList b
   |none=>bools (Ct aM base st o.after.toList c) (Ct aM base st o.after.toList a) (Ct aM base st o.after.toList b),[])
  |_=>match Ex P aM base C st i o with
   |some (.value v,bl)=>(v,bl)
   |_=>(ar,[])
def vg(st:Nat->En)(i:Nat)(o:cI):En:=
 match PS C st o with
 |none=>([],ar,[])
 |some ch=>(ch,xK P aM base C st i o)
def FB:Nat->List cI->(Nat->En)->Nat->En
 |_,[],st=>st
 |i,o::l,st=>FB (i+1) l fun k=>bif F6 k i then vg P aM base C st i o else st k
def nW:Nat->En:=FB P aM base C 0 aM.toList fun _=>([],ar,[])
def okC(st:Nat->En)(i:Nat)(o:cI)(ch:List (Nat × Bool)):Bool:=
 match o.op with
 |.pick c a b=>(mD C.hs i).isNone&&vz aM base st o.after.toList ch c&&(match TV aM C o.after.toList c with
  |some true=>NP (Ct aM base st o.after.toList c) true&&vz aM base st o.after.toList ch a
  |some false=>NP (Ct aM base st o.after.toList c) false&&vz aM base st o.after.toList ch b
  |none=>isBool (Ct aM base st o.after.toList c)&&isBool (Ct aM base st o.after.toList a)&&isBool (Ct aM base st o.after.toList b) &&
   vz aM base st o.after.toList (O5 aM o.after.toList c true ch) a&&vz aM base st o.after.toList (O5 aM o.after.toList c false ch) b)
 |_=>(match uz o.op with
   |some l=>l.all (vz aM base st o.after.toList ch)
   |none=>false) &&
  (match mD C.hs i with
  |some _=>true
  |none=>match Ex P aM base C st i o with
   |some (.value _,bl)=>(qB C i).isSome||bl.isEmpty
   |_=>false)
def Vb(st:Nat->En):Nat->List cI->Bool
 |_,[]=>true
 |i,o::l=>((match o.guard with
  |some (j,_)=>(d_ aM j).isSome&&(match mD C.lits j with|some b'=>NP (st j).2.1 b'|none=>true)
  |none=>true)&&(match PS C st o with
  |none=>true
  |some ch=>okC P aM base C st i o ch))&&Vb st (i+1) l
def ldL(st:Nat->En):Nat->List cI->List (List Nat)
 |_,[]=>[]
 |i,_::l=>(st i).2.2::ldL st (i+1) l
def ldR(st:Nat->En):Nat->List cI->List (List Nat)
 |_,[]=>[]
 |i,_::l=>((st i).2.2.map fun _=>((qB C i).map (·.1)).getD 0)::ldR st (i+1) l
def mA(st:Nat->En)(ch:List (Nat × Bool)):Bool:=ch.all fun p=>NP (st p.1).2.1 p.2
def mC(s:iN Next)(w:ak)(v:aj):Prop:=
 match s.run P w with
 |.ok (.value u) w'=>u=v/\Bw w w'
 |.ok (.enter f args) w'=>w'=w/\a_ P f args w fun e w''=>e=.returned v/\Bw w w''
 |_=>False
def MJ(G:Nat->iN Next->ak->aj->Prop)(S:ak->Prop)(st:Nat->En):List (Nat × aj)->Prop
 |[]=>True
 |p::l=>(∀w,S w->mA st (st p.1).1=true->G p.1 (cu (Ct aM base st (opAt aM p.1).after.toList) (opAt aM p.1)) w p.2)/\MJ G S st l
def nY(S:ak->Prop):List (Nat × Array aj)->Prop
 |[]=>True
 |m::l=>(∀w,S w->∃ty fr,w.heap[m.1]?=some (.cells m.2 ty fr))/\nY S l
def xl(st:Nat->En)(i:Nat):Pred:=
 match d_ aM i with
 |some _=>fun u _ _=>u=M4 (mA st (st i).1) (st i).2.1
 |none=>fun _ _ _=>True
def pj(st:Nat->En):List Pred:=(aQ aM.size).map (xl aM st)
def WH(st:Nat->En)(t:kG):List cI->Nat->Option aj
 |[],_=>none
 |o::l,i=>bif eqT o.dst t then(match (st i).1 with|[]=>some (st i).2.1|_=>none) else WH st t l (i+1)
end
section
variable{P:aL}{aM:Array cI}{base:List (kG × aj)}{C:Cf}{n:Nat}{S:ak->Prop}{outs:List (kG × aj)}
theorem mC.yields{o:cI}{ev:bI->aj}{w:ak}{v:aj}{R:aj->ak->Prop}(hg:mC P (cu ev o) w v)(hR:∀w',Bw w w'->R v w'):Yields P o ev w R:=by
 unfold mC at hg;unfold Yields;generalize (cu ev o).run P w=r at *;cases r with
 |halt x w'=>exact hg.elim
 |ok nx w'=>
  cases nx<;>simp only[] at hg<;>first|exact hg.elim|skip
  .obtain⟨rfl,hb⟩:=hg;exact hR _ hb
  obtain⟨rfl,hc⟩:=hg;exact hc.mono (by rintro e w'' ⟨rfl,hb⟩;exact⟨_,rfl,hR _ hb⟩)
theorem MJ.get{G:Nat->iN Next->ak->aj->Prop}{st:Nat->En}:∀ {l:List (Nat × aj)} {p:Nat × aj},MJ aM base G S st l->p∈l->∀w,S w->mA st (st p.1).1=true->G p.1 (cu (Ct aM base st (opAt aM p.1).after.toList) (opAt aM p.1)) w p.2
 |q::l,p,h,hp=>by
  rcases cy.1 hp with rfl|hp
  .exact h.1
  exact MJ.get h.2 hp
theorem nY.get:∀ {l:List (Nat × Array aj)} {m:Nat × Array aj},nY S l->m∈l->∀w,S w->∃ty fr,w.heap[m.1]?=some (.cells m.2 ty fr)
 |q::l,m,h,hp=>by
  rcases cy.1 hp with rfl|hp
  .exact h.1
  exact nY.get h.2 hp
theorem FA:∀(l:List cI) (i:Nat) (st:Nat->En) (k:Nat),k<i->FB P aM base C i l st k=st k
 |[],_,_,_,_=>rfl
 |o::l,i,st,k,h=>by
  unfold FB;rw[FA l (i+1) _ k (by omega)]
  have:F6 k i=false:=by
   cases hb:F6 k i with
   |false=>rfl
   |true=>have:=iu hb;omega
  rw[this];rfl
theorem Mw:∀(l:List cI) (i:Nat) (st:Nat->En) (j:Nat) (o:cI),l[j]?=some o->∃Pb,FB P aM base C i l st (i+j)=vg P aM base C Pb (i+j) o/\∀k,k<i+j->Pb k=FB P aM base C i l st k
 |[],_,_,_,_,h=>by simp at h
 |x::l,i,st,j,o,h=>by
  unfold FB;cases j with
  |zero=>
   simp at h;subst h;refine⟨st,?_,fun k hk=>?_⟩
   .simp only[Nat.add_zero];rw[FA l (i+1) _ i (by omega)];have:F6 i i=true:=Nat.beq_refl i;rw[this];rfl
   rw[FA l (i+1) _ k (by omega)]
   have:F6 k i=false:=by
    cases hb:F6 k i with
    |false=>rfl
    |true=>have:=iu hb;omega
   rw[this];rfl
  |succ j=>
   have:=Mw l (i+1) (fun k=>bif F6 k i then vg P aM base C st i x else st k) j o (by simpa using h);rwa [show i+1+j=i+(j+1) by omega] at this
theorem RQ{st Pb:Nat->En}{l:List Edge}(h:∀e∈l,fE .any e=true->st e.on=Pb e.on):Ct aM base st l=Ct aM base Pb l:=by
 funext x
 cases x<;>try rfl
 rename_i t;unfold Ct;cases hs:xh aM l t with
 |none=>simp only[hs]
 |some j=>
  obtain⟨e,he,h1,h2,-⟩:=xN hs;simp only[hs];rw[<-h1,h e he h2]
theorem Ky{st Pb:Nat->En}{i:Nat}{o:cI}(h:∀e∈o.after.toList,fE .any e=true->st e.on=Pb e.on)(hg:∀j b,o.guard=some (j,b)->st j=Pb j):vg P aM base C st i o=vg P aM base C Pb i o:=by
 have h1:=RQ (aM:=aM) (base:=base) h
 have h2:PS C st o=PS C Pb o:=by
  unfold PS;cases hgd:o.guard with
  |none=>rfl
  |some jb=>obtain⟨j,b⟩:=jb;simp only[hg j b hgd]
 unfold vg xK Ex;rw[h1,h2]
theorem Cn{o:cI}{i j:Nat}{b:Bool}(cV:jl aM n base=true)(ho:aM[i]?=some o)(hg:o.guard=some (j,b)):∃e∈o.after.toList,fE .any e=true/\e.on=j:=by
 have hi:i<aM.size:=(ah.1 ho).1;unfold jl at cV;rw[aF,bf] at cV;have h2:=cV.1 i (bQ.2 hi);rw[ho] at h2;simp only[aF,hg] at h2;obtain⟨e,he,h3⟩:=List.any_eq_true.1 h2.2;rw[aF,decide_eq_true_eq] at h3;exact⟨e,he,h3⟩
theorem R3(cV:jl aM n base=true){i:Nat}{o:cI}(ho:aM[i]?=some o):nW P aM base C i=vg P aM base C (nW P aM base C) i o:=by
 obtain⟨Pb,h1,h2⟩:=Mw (P:=P) (aM:=aM) (base:=base) (C:=C) aM.toList 0 (fun _=>([],ar,[])) i o (by simpa using ho);rw[cO] at h1 h2;unfold nW;rw[h1];refine Ky (fun e he hb=>h2 _ (Gd.qj cV ho he hb)) fun j b hg=>?_;obtain⟨e,he,hb,rfl⟩:=Cn cV ho hg;exact h2 _ (Gd.qj cV ho he hb)
theorem Wj{st:Nat->En}{i:Nat}{o:cI}(Rl:∀c a b,o.op≠.pick c a b)(AY:mD C.hs i=none):xK P aM base C st i o=match Ex P aM base C st i o with|some (.value v,bl)=>(v,bl)|_=>(ar,[]):=by
 unfold xK;rw[AY];cases ho:o.op<;>first|exact absurd ho (Rl _ _ _)|rfl
theorem ZI{st:Nat->En}{i:Nat}{o:cI}{ch:List (Nat × Bool)}(Rl:∀c a b,o.op≠.pick c a b):okC P aM base C st i o ch=((match uz o.op with | some l=>l.all (vz aM base st o.after.toList ch) | none=>false)&&(match mD C.hs i with | some _=>true | none=>match Ex P aM base C st i o with | some (.value _,bl)=>(qB C i).isSome||bl.isEmpty | _=>false)):=by
 unfold okC;cases ho:o.op<;>first|exact absurd ho (Rl _ _ _)|rfl
theorem Ed{st:Nat->En}{i:Nat}{u:aj}{ds:List aj}{w w':ak}(h:xl aM st i u ds w):xl aM st i u ds w':=by
 unfold xl at h ⊢;cases hd:d_ aM i with
 |none=>trivial
 |some d=>rw[hd] at h;exact h
theorem sQ{st:Nat->En}{i:Nat}(hi:i<aM.size):gh (pj aM st) i=xl aM st i:=by
 unfold gh pj;simp[List.getD,hi]
theorem Qp{st:Nat->En}{a b:List (Nat × Bool)}(h:subs a b=true)(hc:mA st b=true):mA st a=true:=by
 unfold subs at h;unfold mA at *;rw[bf] at *;intro p hp;obtain⟨q,hq,h1⟩:=List.any_eq_true.1 (h p hp);rw[aF] at h1;have h2:=hc q hq;rw[iu h1.1,eq_of_beq h1.2];exact h2
theorem Mi{st:Nat->En}:∀ {l:List cI} {i j:Nat} {o:cI},Vb P aM base C st i l=true->l[j]?=some o->
  (∀k b,o.guard=some (k,b)->(d_ aM k).isSome=true/\∀b',mD C.lits k=some b'->NP (st k).2.1 b'=true)/\∀ch,PS C st o=some ch->okC P aM base C st (i+j) o ch=true
 |[],_,_,_,_,h=>by simp at h
 |x::l,i,j,o,hc,h=>by
  unfold Vb at hc;rw[aF,aF] at hc;cases j with
  |zero=>
   simp at h;subst h;refine⟨fun k b hg=>?_,fun ch hg=>?_⟩
   .have:=hc.1.1;rw[hg,aF] at this;refine⟨this.1,fun b' hk=>?_⟩;have h2:=this.2;simp only[hk] at h2;exact h2
   have:=hc.1.2;rw[hg] at this;exact this
  |succ j=>
   have:=Mi hc.2 (j:=j) (by simpa using h);rwa [show i+1+j=i+(j+1) by omega] at this
theorem TY{st:Nat->En}:∀ {l:List cI} {i j:Nat},ldL st i l=ldR C st i l->j<l.length->∀b∈(st (i+j)).2.2,b=((qB C (i+j)).map (·.1)).getD 0
 |[],_,_,_,h=>by simp at h
 |x::l,i,j,he,h=>by
  unfold ldL ldR at he;rw[Ar] at he;cases j with
  |zero=>
   intro b hb;rw[Nat.add_zero] at hb ⊢;have h1:=he.1;rw[h1] at hb;obtain⟨_,_,rfl⟩:=dm.1 hb;rfl
  |succ j=>
   have:=TY he.2 (j:=j) (by simpa using h);rwa [show i+1+j=i+(j+1) by omega] at this
theorem ZA{st:Nat->En}{ev:bI->aj}{w:ak}{o:cI}{i:Nat}{ch:List (Nat × Bool)}(cV:jl aM n base=true)(ho:aM[i]?=some o)(hc:∀v,ev (.const v)=v)(hg:∀g,ev (.global g)=.pointer (some ⟨g,0,none⟩))(hf:∀f,ev (.func f)=.func (.func f) #[] #[])
  (hb:gp ev base) (hd:∀e∈o.after.toList,fE .any e=true->gh (pj aM st) e.on (jc (d_ aM e.on) ev) (gi aM ev (fR aM e.on)) w) (mr:mA st ch=true):∀ {x:bI},vz aM base st o.after.toList ch x=true->ev x=Ct aM base st o.after.toList x
 |.const v,_=>hc v
 |.global g,_=>hg g
 |.func f,_=>hf f
 |.tmp t,h=>by
  unfold vz at h;unfold Ct;simp only[] at h ⊢;cases hs:xh aM o.after.toList t with
  |none=>
   rw[hs] at h;simp only[] at h ⊢;cases hk:mD base t with
   |none=>rw[hk] at h;cases h
   |some v=>
    have:=zA hk;clear hd cV hk h
    induction base with
    |nil=>cases this
    |cons p l ih=>
     rcases cy.1 this with rfl|h2
     .exact hb.1
     exact ih hb.2 h2
  |some j=>
   rw[hs] at h;simp only[] at h ⊢;obtain⟨e,he,rfl,h2,h3⟩:=xN hs;have h4:=hd e he h2;have hlt:=Gd.qj cV ho he h2;have hi:i<aM.size:=(ah.1 ho).1;rw[sQ (by omega)] at h4;unfold xl at h4;rw[h3] at h4;simp only[jc] at h4;rw[h4,Qp h mr];rfl
theorem Mb{Vs:List Pred}{ev:bI->aj}{w:ak}:∀ {l:List Edge},FT aM Vs ev w l->∀e∈l,fE .any e=true->gh Vs e.on (jc (d_ aM e.on) ev) (gi aM ev (fR aM e.on)) w
 |e::l,h,e',he,hb=>by
  rcases cy.1 he with rfl|he
  .exact h.1 hb
  exact Mb h.2 e' he hb
theorem Vh{Y:mL}{G:Nat->iN Next->ak->aj->Prop}{T:ak->ak->Prop}(VZ:∀w w',S w->T w w'->S w')(Ry:∀w,T w w){i:Nat}{o:cI}(ho:aM[i]?=some o)
  (hp:mD C.hs i=none->∀ev w R v,(cu ev o).run P w=.ok (.value v) w->R v w->Y o ev w R) (hG:∀ev w v R,S w->G i (cu ev o) w v->(∀w',T w w'->R v w')->Y o ev w R)
  (cV:jl aM n base=true) (hck:Vb P aM base C (nW P aM base C) 0 aM.toList=true) (Rm:ldL (nW P aM base C) 0 aM.toList=ldR C (nW P aM base C) 0 aM.toList) (hm:nY S C.mem)
  (hh:MJ aM base G S (nW P aM base C) C.hs):Gd.Qa Y aM (pj aM (nW P aM base C)) S base i o:=by
 intro ev w hS hc hg hf hb hd;have hi:i<aM.size:=(ah.1 ho).1;have hat:opAt aM i=o:=by unfold opAt;simp[List.getD,ho]
 have hstep:=R3 (P:=P) (C:=C) cV ho;obtain⟨pP,hk2⟩:=Mi hck (j:=i) (by simpa using ho);rw[cO] at hk2;have Rm:=TY Rm (j:=i) (by simpa using hi);rw[cO] at Rm;generalize hst:nW P aM base C=st at *;have hdm:=Mb hd
 have post:∀ {v:aj} {w':ak},(∀d,o.dst=some d->v=M4 (mA st (st i).1) (st i).2.1)->T w w'->Post aM ev (pj aM st) S i o w v w':=fun {v w'} hv ht=>by
  refine⟨?_,.inr ⟨VZ _ _ hS ht,fun k u ds hk hu=>?_⟩⟩
  .rw[sQ hi];unfold xl d_;rw[ho];simp only[Option.bind_some];cases uQ:o.dst with
   |none=>trivial
   |some d=>exact hv d uQ
  by_cases hks:k<aM.size
  .rw[sQ hks] at hu ⊢;exact Ed hu
  unfold gh pj;simp[List.getD,hks]
 have go:∀ch,PS C st o=some ch->mA st ch=true->Y o ev w (Post aM ev (pj aM st) S i o w):=fun ch hgd mr=>by
  have uO:=hk2 ch hgd
  have VS:st i=(ch,xK P aM base C st i o):=by
   rw[hstep];unfold vg;rw[hgd]
  have hval:∀d,o.dst=some d->(xK P aM base C st i o).1=M4 (mA st (st i).1) (st i).2.1:=fun d _=>by
   rw[VS];show(xK P aM base C st i o).1=M4 (mA st ch) (xK P aM base C st i o).1;rw[mr];rfl
  have hop:∀ {ch':List (Nat × Bool)} {x:bI},mA st ch'=true->vz aM base st o.after.toList ch' x=true->ev x=Ct aM base st o.after.toList x:=fun h1 h2=>ZA cV ho hc hg hf hb hdm h1 h2
  have rest:(∀c a b,o.op≠.pick c a b)->Y o ev w (Post aM ev (pj aM st) S i o w):=fun Rl=>by
   have h5:(match uz o.op with | some l=>l.all (vz aM base st o.after.toList ch) | none=>false)=true/\(match mD C.hs i with | some _=>true | none=>match Ex P aM base C st i o with | some (.value _,bl)=>(qB C i).isSome||bl.isEmpty | _=>false)=true:=by
    rw[ZI Rl,aF] at uO;exact uO
   cases hl:uz o.op with
   |none=>rw[hl] at h5;cases h5.1
   |some l=>
    rw[hl] at h5;have hex:cu ev o=cu (Ct aM base st o.after.toList) o:=execOp_congr hl fun x hx=>hop mr (bf.1 h5.1 x hx);cases AY:mD C.hs i with
    |some v=>
     have h6:=hh.get (zA AY) w hS (by rw[VS];exact mr);simp only[hat] at h6;rw[<-hex] at h6;have hv:(xK P aM base C st i o).1=v:=by unfold xK;rw[AY]
     rw[hv] at hval;exact hG ev w v _ hS h6 fun w' ht=>post hval ht
    |none=>
     rw[AY] at h5;cases hlk:Ex P aM base C st i o with
     |none=>rw[hlk] at h5;cases h5.2
     |some nb=>
      obtain⟨nx,bl⟩:=nb;rw[hlk] at h5;cases nx<;>try (cases h5.2;done)
      rename_i v;have hv:xK P aM base C st i o=(v,bl):=by rw[Wj Rl AY,hlk]
      rw[hv] at hval VS
      have hbl:∀b∈bl,∃ty fr,w.heap[b]?=some (.cells (Va C i) ty fr):=fun b Rw=>by
       have h7:=Rm b (by rw[VS];exact Rw);have h8:=h5.2;simp only[] at h8;unfold Va;cases hmm:qB C i with
       |none=>
        rw[hmm] at h8;cases bl with
        |nil=>cases Rw
        |cons _ _=>cases h8
       |some m=>
        rw[hmm] at h7;have h7:b=m.1:=h7;subst h7;unfold qB at hmm;exact hm.get (List.mem_of_getElem? hmm) w hS
      have hrun:=mJ (w:=w) hlk hbl;rw[<-hex] at hrun;exact hp AY ev w _ v hrun (post hval (Ry w))
  by_cases SI:∃c a b,o.op=.pick c a b
  case neg=>exact rest fun c a b h=>SI ⟨c,a,b,h⟩
  obtain⟨c,a,b,AW⟩:=SI;unfold okC at uO;rw[AW] at uO;simp only[aF] at uO;obtain⟨⟨hnone,aae⟩,rX⟩:=uO;have AY:mD C.hs i=none:=by simpa using hnone
  have N1:=hop mr aae;cases Jw:TV aM C o.after.toList c with
  |some t=>
   rw[Jw] at rX
   have hv:(xK P aM base C st i o).1=if t then Ct aM base st o.after.toList a else Ct aM base st o.after.toList b:=by
    unfold xK;rw[AY,AW];simp only[Jw];cases t<;>rfl
   cases t with
   |true=>
    rw[aF] at rX;have hrun:=ru (P:=P) (w:=w) AW (N1.trans (oz.1 rX.1));refine hp AY ev w _ _ hrun (post (fun d hd=>?_) (Ry w));rw[<-hval d hd,hv];exact hop mr rX.2
   |false=>
    rw[aF] at rX;have hrun:=ru (P:=P) (w:=w) AW (N1.trans (oz.1 rX.1));refine hp AY ev w _ _ hrun (post (fun d hd=>?_) (Ry w));rw[<-hval d hd,hv];exact hop mr rX.2
  |none=>
   rw[Jw] at rX;simp only[aF] at rX;obtain⟨⟨⟨⟨h1,h2⟩,h3⟩,h4⟩,h5⟩:=rX
   have hv:(xK P aM base C st i o).1=bools (Ct aM base st o.after.toList c) (Ct aM base st o.after.toList a) (Ct aM base st o.after.toList b):=by
    unfold xK;rw[AY,AW];simp only[Jw]
   have ib:∀ {v:aj},isBool v=true->∃x,v=.bool x:=fun {v} h=>by cases v<;>first|exact⟨_,rfl⟩|cases h
   obtain⟨t,ht⟩:=ib h1;obtain⟨x,hx⟩:=ib h2;obtain⟨y,hy⟩:=ib h3
   have hw:∀q,t=q->mA st (O5 aM o.after.toList c q ch)=true:=fun q hq=>by
    unfold O5;cases c<;>simp only[]<;>try exact mr
    rename_i tc;cases hs:xh aM o.after.toList tc with
    |none=>exact mr
    |some j=>
     have:(st j).2.1=.bool t:=by
      have:=ht;unfold Ct at this;simp only[hs] at this;exact this
     unfold mA at mr ⊢;rw[dP,mr,this,hq];cases q<;>rfl
   have hrun:=ru (P:=P) (w:=w) AW (N1.trans ht);refine hp AY ev w _ _ hrun (post (fun d hd=>?_) (Ry w));rw[<-hval d hd,hv,ht,hx,hy];cases t with
   |true=>exact(hop (hw true rfl) h4).trans hx
   |false=>exact(hop (hw false rfl) h5).trans hy
 cases hgd:o.guard with
 |none=>
  exact go [] (by unfold PS;rw[hgd]) rfl
 |some jb=>
  obtain⟨j,b⟩:=jb;simp only[];obtain⟨e,he,heb,rfl⟩:=Cn cV ho hgd;have EG:=hdm e he heb;have hlt:=Gd.qj cV ho he heb;rw[sQ (by omega)] at EG;obtain⟨hsome,pP⟩:=pP _ _ hgd;obtain⟨d0,hdd⟩:=Option.isSome_iff_exists.1 hsome;unfold xl at EG;rw[hdd] at EG;simp only[] at EG;generalize hvv:jc (some d0) ev=val at *;rw[hdd,hvv];cases hk:mD C.lits e.on with
  |some b'=>
   have ag7:=oz.1 (pP _ hk);rw[ag7] at EG
   by_cases o6:b'=b
   .subst o6;have wS:PS C st o=some (st e.on).1:=by unfold PS;rw[hgd];simp only[hk];simp
    have VS:(st i).1=(st e.on).1:=by rw[hstep];unfold vg;rw[wS]
    refine⟨fun hv=>go _ wS ?_,fun hv=>post (fun d _=>?_) (Ry w)⟩
    .rw[hv] at EG;cases hcc:mA st (st e.on).1 with
     |true=>rfl
     |false=>rw[hcc] at EG;simp[M4,ar] at EG
    .rw[VS];cases hcc:mA st (st e.on).1 with
     |false=>rfl
     |true=>rw[hcc] at EG;exact absurd EG hv
   .have wS:PS C st o=none:=by
     unfold PS;rw[hgd];simp only[hk];have:(b'==b)=false:=beq_false_of_ne o6;rw[this];rfl
    have VS:st i=([],ar,[]):=by rw[hstep];unfold vg;rw[wS]
    refine⟨fun hv=>?_,fun hv=>post (fun d _=>by rw[VS];rfl) (Ry w)⟩;exfalso;rw[hv] at EG;cases hcc:mA st (st e.on).1 with
    |true=>rw[hcc] at EG;simp[M4] at EG;exact o6 EG.symm
    |false=>rw[hcc] at EG;simp[M4,ar] at EG
  |none=>
   have wS:PS C st o=some ((e.on,b)::(st e.on).1):=by unfold PS;rw[hgd];simp only[hk]
   have VS:(st i).1=(e.on,b)::(st e.on).1:=by rw[hstep];unfold vg;rw[wS]
   have hca:mA st ((e.on,b)::(st e.on).1)=(NP (st e.on).2.1 b&&mA st (st e.on).1):=by unfold mA;rw[dP]
   refine⟨fun hv=>go _ wS ?_,fun hv=>post (fun d _=>?_) (Ry w)⟩
   .rw[hca];rw[hv] at EG;cases hcc:mA st (st e.on).1 with
    |true=>
     rw[hcc] at EG;have h1:(st e.on).2.1=.bool b:=EG.symm;rw[h1];cases b<;>rfl
    |false=>rw[hcc] at EG;simp[M4,ar] at EG
   .rw[VS,hca];cases hcc:mA st (st e.on).1 with
    |false=>rw[Bool.and_false];rfl
    |true=>
     cases hib:NP (st e.on).2.1 b with
     |false=>rfl
     |true=>
      rw[hcc,oz.1 hib] at EG;exact absurd EG hv
theorem H_{Y:mL}:∀ {i:Nat} {l:List cI} {Vs:List Pred},(∀j o,l[j]?=some o->Gd.Qa Y aM Vs S base (i+j) o)->Gd.Each Y aM Vs S base i l
 |_,[],_,_=>trivial
 |i,o::l,Vs,h=>⟨by have:=h 0 o (by simp);rwa [Nat.add_zero] at this,H_ fun j o' hj=>by have:=h (j+1) o' (by simpa using hj);rwa [show i+(j+1)=i+1+j by omega] at this⟩
def KM(P:aL)(aM:Array cI)(n:Nat)(base:List (kG × aj))(C:Cf)(outs:List (kG × aj)):Bool × List (List Nat) × List (Option aj):=
 (jl aM n base&&Vb P aM base C (nW P aM base C) 0 aM.toList,ldL (nW P aM base C) 0 aM.toList,outs.map fun p=>WH (nW P aM base C) p.1 aM.toList 0)
def BX(P:aL)(aM:Array cI)(base:List (kG × aj))(C:Cf)(outs:List (kG × aj)):Bool × List (List Nat) × List (Option aj):=(true,ldR C (nW P aM base C) 0 aM.toList,outs.map fun p=>some p.2)
theorem Ic(VZ:∀w w',S w->Bw w w'->S w')(hr:KM P aM n base C outs=BX P aM base C outs)(hm:nY S C.mem)(hh:MJ aM base (fun _=>mC P) S (nW P aM base C) C.hs) :
  Gd.Each (Yields P) aM (pj aM (nW P aM base C)) S base 0 aM.toList:=by
 unfold KM BX at hr;rw[g_,g_,aF] at hr;obtain⟨⟨cV,hck⟩,Rm,-⟩:=hr;refine H_ fun j o hj=>?_;rw[cO];exact Vh (T:=fun w w'=>Bw w w') VZ (fun w=>ay _ _) (by simpa using hj) (fun _ ev w R v hrun hR=>.value hrun hR) (fun ev w v R _ hg hR=>hg.yields hR) cV hck Rm hm hh
theorem xk{st:Nat->En}:jC S (pj aM st):=by
 unfold pj
 have:∀l:List Nat,jC S (l.map (xl aM st)):=fun l=>by
  induction l with
  |nil=>trivial
  |cons i l ih=>
   exact⟨fun u ds w w' _ h _=>Ed h,ih⟩
 exact this _
theorem Pn{st:Nat->En}{t:kG}{v:aj}:∀ {l:List cI} {i:Nat},WH st t l i=some v->∃j o,l[j]?=some o/\o.dst=some t/\(st (i+j)).1=[]/\(st (i+j)).2.1=v
 |o::l,i,h=>by
  unfold WH at h;cases hb:eqT o.dst t with
  |true=>
   rw[hb] at h;simp only[cond_true] at h;cases hs:(st i).1 with
   |nil=>
    rw[hs] at h;refine⟨0,o,rfl,?_,hs,by simpa using h⟩;cases hd:o.dst with
    |none=>rw[hd] at hb;cases hb
    |some d=>rw[hd] at hb;rw[iu hb]
   |cons _ _=>rw[hs] at h;cases h
  |false=>
   rw[hb] at h;obtain⟨j,o',h1,h2,h3,h4⟩:=Pn h;exact⟨j+1,o',by simpa using h1,h2,by rwa [show i+(j+1)=i+1+j by omega],by rwa [show i+(j+1)=i+1+j by omega]⟩
theorem Fz{a0 a:k9}{w:ak}(hF:ik n a0 base)(hr:KM P aM n base C outs=BX P aM base C outs)(h:jw aM (pj aM (nW P aM base C)) S a0 (Array.replicate aM.size true) a w):ik n a (outs++base):=by
 unfold KM BX at hr;rw[g_,g_,aF] at hr;obtain⟨⟨cV,-⟩,-,hout⟩:=hr
 have Ur:ik n a base:=⟨h.size.trans hF.size,h.defers.trans hF.defers,hF.base.congr fun p hp=>h.keep _ fun o' ho' hd=>by
  obtain⟨k,hk,rfl⟩:=List.getElem_of_mem ho';have qY:k<aM.size:=by simpa using hk
  unfold jl at cV;rw[aF,bf] at cV;have h3:=cV.1 k (bQ.2 qY);rw[aO qY] at h3;simp only[Array.getElem_toList] at hd;simp only[aF,hd] at h3;have:=bf.1 h3.1.2.1.2 p hp
  simp at this⟩
 refine⟨Ur.size,Ur.defers,?_⟩
 induction outs with
 |nil=>exact Ur.base
 |cons p l ih=>
  rw[cP,cP,Ar] at hout;refine⟨?_,ih hout.2⟩;obtain⟨j,o,h1,h2,h3,h4⟩:=Pn hout.1;rw[cO] at h3 h4
  have hj:j<aM.size:=by
   have:=(lj.1 h1).1;simpa using this
  have hv:=h.vals j (by simp[Array.getD,hj]);have MX:d_ aM j=some p.1:=by unfold d_;rw[show aM[j]?=some o by simpa using h1];exact h2
  rw[sQ hj] at hv;unfold xl at hv;rw[MX] at hv;simp only[jc] at hv;rw[hv,h3,h4];rfl
theorem Pk(hr:KM P aM n base C outs=BX P aM base C outs):jl aM n base=true:=by
 unfold KM BX at hr;rw[g_,aF] at hr;exact hr.1.1
def tK(K:List (kG × aj)->Prop):List (kG × aj)->List (kG × aj)->Prop
 |[],l=>K l
 |p::r,l=>tK K r (p::l)
theorem tK.get{K:List (kG × aj)->Prop}:∀ {r l:List (kG × aj)},tK K r l->K (r.reverse++l)
 |[],l,h=>h
 |p::r,l,h=>by have:=tK.get (r:=r) h;simpa using this
theorem ik.rev{n:Nat}{a:k9}{r l:List (kG × aj)}(h:ik n a (r++l)):ik n a (r.reverse++l):=by
 refine⟨h.size,h.defers,?_⟩;have h1:=h.base;clear h
 have iff:∀(ev:bI->aj) (l:List (kG × aj)),gp ev l↔∀p∈l,ev (.tmp p.1)=p.2:=fun ev l=>by
  induction l with
  |nil=>simp[gp]
  |cons p l ih=>simp[gp,ih]
 rw[iff] at *;intro p hp;refine h1 p ?_;simp at hp ⊢;exact hp
variable{Q:Exit->k9->ak->Prop}
theorem Ah(hmx:P.follows .mixedOrders=true)(C:Cf)(outs:List (kG × aj)){id:Nat}{y:Code}{a0:k9}{W:ak}(hF:ik n a0 base)(hm:nY (fun w=>Bw W w) C.mem)(hh:MJ aM base (fun _=>mC P) (fun w=>Bw W w) (nW P aM base C) C.hs)(hy:tK (fun l=>∀a w,Bw W w->ik n a l->y.wp P Q a w) outs base)(hr:KM P aM n base C outs=BX P aM base C outs:=by kernel_rfl):(Code.seq (.region id aM true) y).wp P Q a0 W:=
 Cv hmx _ base (Pk hr) hF.size hF.base xk (Ic (fun _ _ h hb=>h.trans (hb.mono h.size)) hr hm hh) fun a w h=>hy.get a w h.s (Fz hF hr h).rev
theorem abq(hmx:P.follows .mixedOrders=true)(C:Cf)(outs:List (kG × aj)){id:Nat}{a0:k9}{W:ak}(hF:ik n a0 base)(hm:nY (fun w=>Bw W w) C.mem)(hh:MJ aM base (fun _=>mC P) (fun w=>Bw W w) (nW P aM base C) C.hs)(hy:tK (fun l=>∀a w,Bw W w->ik n a l->Q .normal a w) outs base)(hr:KM P aM n base C outs=BX P aM base C outs:=by kernel_rfl):(Code.region id aM true).wp P Q a0 W:=
 aeA hmx _ base (Pk hr) hF.size hF.base xk (Ic (fun _ _ h hb=>h.trans (hb.mono h.size)) hr hm hh) fun a w h=>hy.get a w h.s (Fz hF hr h).rev
variable{s:iN Next}{w:ak}{v:aj}
theorem gc{f:FuncId}{args:Array aj}(h:a_ P f args w fun e w'=>e=.returned v/\Bw w w')(he:look P #[] s=some (.enter f args,[]):=by kernel_rfl):mC P s w v:=by
 unfold mC;rw[mJ he (by simp)];exact⟨rfl,h⟩
theorem ge{u:aj}(h:u=v)(he:look P #[] s=some (.value u,[]):=by kernel_rfl):mC P s w v:=by
 unfold mC;rw[mJ he (by simp)];exact⟨h,ay _ _⟩
theorem gs(s':iN aj)(h:s'.run P w=.ok v w)(he:s=(do pure (.value (<-s'))):=by kernel_rfl):mC P s w v:=by
 unfold mC;rw[he,Sem.run_bind,h];exact⟨rfl,ay _ _⟩
theorem gr(h:s.run P w=.ok (.value v) w):mC P s w v:=by
 unfold mC;rw[h];exact⟨rfl,ay _ _⟩
def TU(P:aL)(v:aj):iN Next->Option (Addr × Option (Next × List Nat))
 |.load _ a k=>some (a,look P #[] (k v))
 |.program k=>TU P v (k P)
 |_=>none
theorem gl{a:Addr}(h:w.cell? a=some v)(he:TU P v s=some (a,some (.value v,[])):=by kernel_rfl):mC P s w v:=by
 refine gr ?_
 induction s with
 |load m b k _=>
  unfold TU at he;simp only[gP,g_] at he;obtain⟨rfl,he⟩:=he
  conv=>lhs;unfold Sem.run
  rw[h];exact mJ he (by simp)
 |program k ih=>exact ih P he
 |_=>cases he
end
end Go.Lag
namespace Go.Proofs.YtffladgmkiimjaaGreatDoor
open Go Go.RowKit Go.Lag Go.ChangeShapes Go.WideShapes
def aie:Tryz.prog.cellTypes Tryz.prog.depth 28=some [3,3,3,3,3,3,3,3,3,3,3,3,24,25,26]:=kQ
def aij:Tryz.prog.cellsOf 28=15:=kQ
def aih:Tryz.prog.cellsOf 79=3:=kQ
def SliceAt(W:ak)(v:aj):Prop:=v=.slice none 0 0\/∃g off n c,v=.slice (some ⟨g,off,none⟩) n c/\n<=c/\g<W.heap.size
def Tb{W:ak}{base:Nat}{t e:aZ}{v:aj}(ht:Tryz.prog.underlying t=some (.slice e))(h:Cell.okWide aq W .any base t v):SliceAt W v:=by
 unfold Cell.okWide Cell.ok at h;rw[ht] at h;cases v<;>simp only at h<;>try exact h.elim
 rename_i p n c;cases p with
 |none=>
  cases n<;>cases c<;>simp only at h<;>first|exact h.elim|exact .inl rfl
 |some a=>
  obtain⟨h1,h2,-,h3,row,cells,h4,-⟩:=h;obtain⟨b,o,s⟩:=a;cases h3;refine .inr ⟨b,o,n,c,rfl,h1,?_⟩;unfold World.shape? at h4
  by_cases hb:b<W.heap.size
  .exact hb
  rw[fF (show W.heap.size<=b from Nat.le_of_not_lt hb)] at h4;simp at h4
def T6{W:ak}{base:Nat}{t:aZ}{k:IntKind}{v:aj}(ht:Tryz.prog.underlying t=some (.int k))(h:Cell.okWide aq W .any base t v):∃x,v=.int k x/\k.has x:=by
 unfold Cell.okWide Cell.ok at h;rw[ht] at h;cases v<;>simp only at h<;>try exact h.elim
 obtain⟨rfl,h⟩:=h;exact⟨_,rfl,h⟩
def X7{W:ak}{base:Nat}{v:aj}(h:Value.okWide aq W .any base 28 v):∃(b:BB) (m s k:aj),v=.agg (b.cells m s k)/\SliceAt W m/\SliceAt W s/\SliceAt W k:=by
 unfold Value.okWide at h;rw[bL] at h;obtain⟨cs,rfl,hc,ts,hts,-,hall⟩:=h;rw[aie] at hts;cases hts;rw[aij] at hc
 have hi:∀i (h:i<12),∃x,cs[i]?=some (.int .i64 x):=by
  intro i h;have hl:i<cs.size:=oM;obtain⟨u,hu,cV⟩:=hall i _ (aO hl)
  have h3:u=3:=by
   rw[Nat.mod_eq_of_lt sO] at hu
   match i,h,hu with
   |0,_,hu|1,_,hu|2,_,hu|3,_,hu|4,_,hu|5,_,hu|6,_,hu|7,_,hu|8,_,hu|9,_,hu|10,_,hu|11,_,hu=>simpa using hu.symm
  subst h3;obtain⟨x,hx,-⟩:=T6 dR cV;exact⟨x,(aO hl).trans (congrArg some hx)⟩
 have hs:∀i t (h:i<15),[3,3,3,3,3,3,3,3,3,3,3,3,24,25,26][i]?=some t->∀e,Tryz.prog.underlying t=some (.slice e)->∃x,cs[i]?=some x/\SliceAt W x:=by
  intro i t h ht e he;have hl:i<cs.size:=oM;obtain⟨u,hu,cV⟩:=hall i _ (aO hl);rw[Nat.mod_eq_of_lt (by simpa using h),ht] at hu;cases hu;exact⟨_,aO hl,Tb he cV⟩
 obtain⟨x0,e0⟩:=hi 0 oM;obtain⟨x1,e1⟩:=hi 1 oM;obtain⟨x2,e2⟩:=hi 2 oM;obtain⟨x3,e3⟩:=hi 3 oM;obtain⟨x4,e4⟩:=hi 4 oM;obtain⟨x5,e5⟩:=hi 5 oM;obtain⟨x6,e6⟩:=hi 6 oM;obtain⟨x7,e7⟩:=hi 7 oM;obtain⟨x8,e8⟩:=hi 8 oM;obtain⟨x9,e9⟩:=hi 9 oM;obtain⟨qo,Oj⟩:=hi 10 oM;obtain⟨qm,e11⟩:=hi 11 oM;obtain⟨m,Y7,hm⟩:=hs 12 24 oM rfl _ Tryz.underlying24;obtain⟨s,Ma,hs'⟩:=hs 13 25 oM rfl _ Tryz.underlying25;obtain⟨k,F4,hk⟩:=hs 14 26 oM rfl _ Tryz.underlying26;refine⟨⟨x0,x1,x2,x3,x4,x5,x6,x7,x8,x9,qo,qm⟩,m,s,k,?_,hm,hs',hk⟩
 congr 1
 apply Array.ext';apply List.ext_getElem?;intro i
 by_cases h:i<15
 .rw[Array.getElem?_toList,Array.getElem?_toList]
  match i,h with
  |0,_=>exact e0
  |1,_=>exact e1
  |2,_=>exact e2
  |3,_=>exact e3
  |4,_=>exact e4
  |5,_=>exact e5
  |6,_=>exact e6
  |7,_=>exact e7
  |8,_=>exact e8
  |9,_=>exact e9
  |10,_=>exact Oj
  |11,_=>exact e11
  |12,_=>exact Y7
  |13,_=>exact Ma
  |14,_=>exact F4
 rw[Array.getElem?_toList,Array.getElem?_toList,fF oM,fF sO]
def Vc{W:ak}{base:Nat}{a:Addr}{cs:List aj}(h:W.cells? base a 3=some cs):∃x y z,cs=[x,y,z]/\W.cell? (a.add 0)=some x/\W.cell? (a.add 1)=some y/\W.cell? (a.add 2)=some z:=by
 unfold World.cells? at h;split at h
 .simp only[show aQ 3=[0,1,2] from rfl,List.mapM_cons,List.mapM_nil] at h;cases h0:W.cell? (a.add 0)<;>rw[h0] at h<;>simp at h;cases h1:W.cell? (a.add 1)<;>rw[h1] at h<;>simp at h;cases h2:W.cell? (a.add 2)<;>rw[h2] at h<;>simp at h;exact⟨_,_,_,h.symm,rfl,rfl,rfl⟩
 cases h
def tJ(g off k:Nat):(⟨g,off,none⟩:Addr).add k=⟨g,off+k,none⟩:=by
 unfold Addr.add;split
 .rename_i h;rw[h];rfl
 rfl
section
variable{H:Type}{enc:aZ × aj->H}{W:ak}{sp:Nat->Bool}{hd:Bool}
theorem OA{fuel:Nat}{b:BB}{m s k:aj}{x:DataW H × List MemPlace}(h:DataW.trod enc aq W 0 sp hd fuel 28 (b.cells m s k).toList=some x) :
  (∃n y,DataW.trod enc aq W 0 sp hd n 24 [m]=some y)/\(∃n y,DataW.trod enc aq W 0 sp hd n 25 [s]=some y)/\(∃n y,DataW.trod enc aq W 0 sp hd n 26 [k]=some y):=by
 obtain⟨xs,n,-,-,-,hlen,hf⟩:=DataW.trod_struct bL h;have h10:=hf 10 _ rfl;have h11:=hf 11 _ rfl;have XL:=hf 12 _ rfl;have hl:xs.length=13:=hlen;have P0:Tryz.prog.cellsOf 24=1:=kQ;have c25:Tryz.prog.cellsOf 25=1:=kQ;have c26:Tryz.prog.cellsOf 26=1:=kQ;rw[List.getElem?_eq_getElem oM] at h10 h11 XL;simp only[P0,c25,c26] at h10 h11 XL;exact⟨⟨n,_,h10⟩,⟨n,_,h11⟩,⟨n,_,XL⟩⟩
theorem TR{fuel:Nat}{g off n c:Nat}{x:DataW H × List MemPlace}(uP:n<=c)(h:DataW.trod enc aq W 0 (fun _=>true) hd fuel 24 [.slice (some ⟨g,off,none⟩) n c]=some x) :
  ∀i,i<n->∃mn:Mn,W.cell? ⟨g,off+i*3,none⟩=some (.string mn.name)/\W.cell? ⟨g,off+i*3+1,none⟩=some (.int .i64 mn.lo)/\W.cell? ⟨g,off+i*3+2,none⟩=some (.int .i64 mn.hi):=by
 intro i hi;rcases Go.Deep.open_slice Tryz.underlying24 h with⟨h0,-⟩|⟨a,len,cap,mm,nn,D,Pl,h0,-,-,-,hm,-,hel⟩
 .cases h0
 cases h0;obtain⟨cs',hc,ht⟩:=hel i (by rw[hm];simp;omega);rw[aih] at hc;obtain⟨x,y,z,rfl,e0,e1,e2⟩:=Vc hc;rw[tJ,tJ] at e0 e1 e2;obtain⟨y0,y1,n1,-,-,t0,t1⟩:=trod_struct2 Tryz.underlying79 ht;have c9:Tryz.prog.cellsOf 9=1:=kQ;have c23:Tryz.prog.cellsOf 23=2:=kQ;have c3:Tryz.prog.cellsOf 3=1:=kQ;simp only[c9,c23] at t0 t1;obtain⟨z0,z1,n2,-,-,u0,u1⟩:=trod_struct2 Tryz.underlying23 t1;simp only[c3] at u0 u1;obtain⟨s,hs,-⟩:=DataW.trod_string Tryz.underlying9 t0;obtain⟨lo,hlo,-⟩:=DataW.trod_int dR u0;obtain⟨hi',hhi,-⟩:=DataW.trod_int dR u1;simp at hs hlo hhi;subst hs;subst hlo;subst hhi;exact⟨⟨s,lo,hi'⟩,e0,e1,e2⟩
end
def QI{W:ak}{g off n c:Nat}(uP:n<=c)(hg:g<W.heap.size)(hn:n<=20)(h:∀i,i<n->∃mn:Mn,W.cell? ⟨g,off+i*3,none⟩=some (.string mn.name)/\W.cell? ⟨g,off+i*3+1,none⟩=some (.int .i64 mn.lo)/\W.cell? ⟨g,off+i*3+2,none⟩=some (.int .i64 mn.hi)) :
  ∃ml:List Mn,ml.length=n/\Reads W (.slice (some ⟨g,off,none⟩) n c) n (eA ml):=by
 obtain⟨f,hf⟩:∃f:Nat->Mn,∀i,i<n->W.cell? ⟨g,off+i*3,none⟩=some (.string (f i).name)/\W.cell? ⟨g,off+i*3+1,none⟩=some (.int .i64 (f i).lo)/\W.cell? ⟨g,off+i*3+2,none⟩=some (.int .i64 (f i).hi):=
  ⟨fun i=>if hi:i<n then(h i hi).choose else⟨⟨#[]⟩,0,0⟩,fun i hi=>by simp only[dif_pos hi];exact(h i hi).choose_spec⟩
 refine⟨(aQ n).map f,sM,.inr ⟨g,off,c,rfl,⟨oM,uP⟩,hg,fun j u hj=>?_⟩⟩;have MV:j<(eA ((aQ n).map f)).length:=(lj.1 hj).1;rw[pZ] at MV;simp at MV;have hk:j / 3<n:=oM;have e:j=3*(j / 3)+j % 3:=oM;rw[e,iF _ _ _ (by simpa using hk) oM] at hj;obtain⟨h0,h1,h2⟩:=hf (j / 3) hk;simp only[List.getElem_map,List.getElem_range] at hj;have h3:j % 3<3:=Nat.mod_lt _ dC;rw[show off+j=off+(j / 3)*3+j % 3 by omega]
 match j % 3,h3,hj with
 |0,_,hj=>simp at hj;subst hj;exact h0
 |1,_,hj=>simp at hj;subst hj;exact h1
 |2,_,hj=>simp at hj;subst hj;exact h2
def TT{w:ak}{B C g off L cap j:Nat}{n lo hi:Int}{b:BB}{bm aH az:aj}(h:w.heap[B]?=some (au (b.cells bm aH az) 119 (0,0)))(hC:w.cell? ⟨C,0,none⟩=some (ae (some ⟨g,off,none⟩) L cap))(RA:C<w.heap.size)(hg:g<w.heap.size)(hn:w.cell? ⟨g,off+j,none⟩=some (ag af n)){w':ak}(hb:fX (w.heap.size+1) (w.alloc (au #[ag af ((j:Int)+1),ag af lo,ag af hi] 81)) w'):(w'.cell? ⟨B,0,none⟩=some (ag af b.room)/\w'.cell? ⟨B,1,none⟩=some (ag af b.depth)/\w'.cell? ⟨B,2,none⟩=some (ag af b.least)/\w'.cell? ⟨B,3,none⟩=some (ag af b.minutes)/\w'.cell? ⟨B,4,none⟩=some (ag af b.cM)/\w'.cell? ⟨B,5,none⟩=some (ag af b.jX)/\w'.cell? ⟨B,6,none⟩=some (ag af b.eN)/\w'.cell? ⟨B,7,none⟩=some (ag af b.jK)/\w'.cell? ⟨B,8,none⟩=some (ag af b.ll)/\w'.cell? ⟨B,9,none⟩=some (ag af b.lm)/\w'.cell? ⟨B,10,none⟩=some (ag af b.pl)/\w'.cell? ⟨B,11,none⟩=some (ag af b.pm)/\w'.cell? ⟨B,12,none⟩=some (bm)/\w'.cell? ⟨B,13,none⟩=some (aH)/\w'.cell? ⟨B,14,none⟩=some (az)/\w'.cell? ⟨C,0,none⟩=some (ae (some ⟨g,off,none⟩) L cap)/\w'.cell? ⟨g,off+j,none⟩=some (ag af n)/\w'.cell? ⟨w.heap.size,0,none⟩=some (ag af ((j:Int)+1))/\w'.cell? ⟨w.heap.size,1,none⟩=some (ag af lo)/\w'.cell? ⟨w.heap.size,2,none⟩=some (ag af hi))/\fX (w.heap.size+1) (w.alloc (au #[ag af ((j:Int)+1),ag af lo,ag af hi] 81)) w':=by
 have hBl:B<w.heap.size:=(ah.1 h).1;have h':w'.heap[B]?=some (au (b.cells bm aH az) 119 (0,0)):=by rw[hb.block B oM,aW _ _ _ hBl];exact h
 have hnew:w'.heap[w.heap.size]?=some (au #[ag af ((j:Int)+1),ag af lo,ag af hi] 81 (0,0)):=by rw[hb.block w.heap.size oM];exact ax w _
 obtain⟨x0,x1,x2,x3,x4,x5,x6,x7,x8,x9,qo,qm,rj,qX,q7⟩:=bU h';refine⟨⟨x0,x1,x2,x3,x4,x5,x6,x7,x8,x9,qo,qm,rj,qX,q7,?_,?_,?_,?_,?_⟩,hb⟩
 .exact(hb.cell (p:=⟨C,0,none⟩) (by show C<_;omega)).trans ((en _ _ _ RA).trans hC)
 .exact(hb.cell (p:=⟨g,off+j,none⟩) (by show g<_;omega)).trans ((en _ _ _ hg).trans hn)
 .simp[dG,hnew]
 .simp[dG,hnew]
 simp[dG,hnew]
def Ew{w:ak}{B C g off L cap j:Nat}{n lo hi:Int}{b:BB}{bm aH az:aj}(h:w.heap[B]?=some (au (b.cells bm aH az) 119 (0,0)))(hC:w.cell? ⟨C,0,none⟩=some (ae (some ⟨g,off,none⟩) L cap))(RA:C<w.heap.size)(hg:g<w.heap.size)(hn:w.cell? ⟨g,off+j,none⟩=some (ag af n)){w1 w':ak}(hb:fX (w.heap.size+1) (w.alloc (au #[ag af ((j:Int)+1),ag af lo,ag af hi] 81)) w1)(hb2:Bw w1 w'):(w'.cell? ⟨B,0,none⟩=some (ag af b.room)/\w'.cell? ⟨B,1,none⟩=some (ag af b.depth)/\w'.cell? ⟨B,2,none⟩=some (ag af b.least)/\w'.cell? ⟨B,3,none⟩=some (ag af b.minutes)/\w'.cell? ⟨B,4,none⟩=some (ag af b.cM)/\w'.cell? ⟨B,5,none⟩=some (ag af b.jX)/\w'.cell? ⟨B,6,none⟩=some (ag af b.eN)/\w'.cell? ⟨B,7,none⟩=some (ag af b.jK)/\w'.cell? ⟨B,8,none⟩=some (ag af b.ll)/\w'.cell? ⟨B,9,none⟩=some (ag af b.lm)/\w'.cell? ⟨B,10,none⟩=some (ag af b.pl)/\w'.cell? ⟨B,11,none⟩=some (ag af b.pm)/\w'.cell? ⟨B,12,none⟩=some (bm)/\w'.cell? ⟨B,13,none⟩=some (aH)/\w'.cell? ⟨B,14,none⟩=some (az)/\w'.cell? ⟨C,0,none⟩=some (ae (some ⟨g,off,none⟩) L cap)/\w'.cell? ⟨g,off+j,none⟩=some (ag af n)/\w'.cell? ⟨w.heap.size,0,none⟩=some (ag af ((j:Int)+1))/\w'.cell? ⟨w.heap.size,1,none⟩=some (ag af lo)/\w'.cell? ⟨w.heap.size,2,none⟩=some (ag af hi))/\fX (w.heap.size+1) (w.alloc (au #[ag af ((j:Int)+1),ag af lo,ag af hi] 81)) w':=
 TT h hC RA hg hn (hb.trans (hb2.mono (by have:=hb.size;simpa using this)))
def Ji(b:BB)(hb:b.Ok)(bm aH az:aj)(lo hi n:Int)(YN:0<=n/\n<=999)(B C g off L cap j:Nat)(w:ak)(h:w.heap[B]?=some (au (b.cells bm aH az) 119 (0,0)))(hC:w.cell? ⟨C,0,none⟩=some (ae (some ⟨g,off,none⟩) L cap))(RA:C<w.heap.size)(hg:g<w.heap.size)(hn:w.cell? ⟨g,off+j,none⟩=some (ag af n))(hj:j<L)(hL:L<=1000) :
  a_ aq 176 #[aN #[ag af ((j:Int)+1),ag af lo,ag af hi],dB (some ⟨B,0,none⟩),dB (some ⟨C,0,none⟩)] w (Rt w (aA (!aV (b.RS n) lo hi))):=by
 have HK:=ai h;have HC:=ai hC;have HN:=ai hn;have hjj:IntKind.i64.wrap ((j:Int)+1-1)=(j:Int):=by rw[show(j:Int)+1-1=(j:Int) by omega];exact fC _ oM oM
 have hj1:(j:Int)<(L:Int):=oM;have YP:(j:Int)<=(L:Int):=oM;have hj0:(0:Int)<=(j:Int):=oM;have hjw:IntKind.i64.wrap (j:Int)=(j:Int):=fC _ oM oM;clear h hC hn
 go_enter Tryz.func176,Tryz.ntmps176
 go_wp2
 go_region_held3 (fun w'=>(w'.cell? ⟨B,0,none⟩=some (ag af b.room)/\w'.cell? ⟨B,1,none⟩=some (ag af b.depth)/\w'.cell? ⟨B,2,none⟩=some (ag af b.least)/\w'.cell? ⟨B,3,none⟩=some (ag af b.minutes)/\w'.cell? ⟨B,4,none⟩=some (ag af b.cM)/\w'.cell? ⟨B,5,none⟩=some (ag af b.jX)/\w'.cell? ⟨B,6,none⟩=some (ag af b.eN)/\w'.cell? ⟨B,7,none⟩=some (ag af b.jK)/\w'.cell? ⟨B,8,none⟩=some (ag af b.ll)/\w'.cell? ⟨B,9,none⟩=some (ag af b.lm)/\w'.cell? ⟨B,10,none⟩=some (ag af b.pl)/\w'.cell? ⟨B,11,none⟩=some (ag af b.pm)/\w'.cell? ⟨B,12,none⟩=some (bm)/\w'.cell? ⟨B,13,none⟩=some (aH)/\w'.cell? ⟨B,14,none⟩=some (az)/\w'.cell? ⟨C,0,none⟩=some (ae (some ⟨g,off,none⟩) L cap)/\w'.cell? ⟨g,off+j,none⟩=some (ag af n)/\w'.cell? ⟨w.heap.size,0,none⟩=some (ag af ((j:Int)+1))/\w'.cell? ⟨w.heap.size,1,none⟩=some (ag af lo)/\w'.cell? ⟨w.heap.size,2,none⟩=some (ag af hi))/\fX (w.heap.size+1) (w.alloc (au #[ag af ((j:Int)+1),ag af lo,ag af hi] 81)) w')
  (first|exact TT HK.out HC.out RA hg HN.out (ay _ _).drew|exact TT HK.out HC.out RA hg HN.out (ay _ _)|exact Ew HK.out HC.out RA hg HN.out (And.right (by assumption)) (by assumption)|exact Ew HK.out HC.out RA hg HN.out (And.right (by assumption)) (ay _ _))
  (first|(go_at_call 139;refine(JN b hb bm aH az n YN _).mono ?_;rintro e w1 ⟨rfl,hb1⟩)|(go_at_call 138;refine(qC _ _ _ _).mono ?_;rintro e w1 ⟨rfl,rfl⟩))
 rename _/\_=>hS;have hBw:=hS.2;clear hS;go_wp2
 go_ret
 exact⟨rfl,cY.trans (hBw.mono oM)⟩
def xW(b:BB)(used:Int)(p:Nat)(ms:List Mk):Bool:=ms.all fun m=>aV (b.RS (b.yG used p m.minute.toNat)) m.lo m.hi
def jQ(b:BB)(used:Int)(p:Nat):List Mk->Nat->Int
 |[],_=>-1
 |m::r,k=>if aV (b.RS (b.yG used p m.minute.toNat)) m.lo m.hi then jQ b used p r (k+1) else k
def Gk(b:BB)(used:Int)(p:Nat)(xs:List Mk)(k:Nat)(hk:k<xs.length):jQ b used p (xs.drop k) k=if aV (b.RS (b.yG used p xs[k].minute.toNat)) xs[k].lo xs[k].hi then jQ b used p (xs.drop (k+1)) (k+1) else(k:Int):=by
 rw[List.drop_eq_getElem_cons hk];rfl
def Jj(b:BB)(used:Int)(p:Nat)(xs:List Mk):jQ b used p (xs.drop xs.length) xs.length = -1:=by simp[jQ]
def Jk(b:BB)(used:Int)(p:Nat):∀(xs:List Mk) (k:Nat),decide (0<=jQ b used p xs k) = !xW b used p xs:=by
 intro xs
 induction xs with
 |nil=>intro k;simp[jQ,xW]
 |cons n r ih=>
  intro k;simp only[jQ,xW,dP];split
  .rename_i h;rw[h,Bool.true_and];exact ih (k+1)
  rename_i h;simp at h;simp[h]
def Gl(b:BB)(hb:b.Ok)(bm aH az:aj)(ms:List Mk)(hm:l9 b ms)(used:Int)(hu:0<=used)(p:Nat)(v:aj)(B C g off L cap:Nat)(w:ak)(hv:Reads w v ms.length (dM ms))
  (lg:w.heap[B]?=some (au (b.cells bm aH az) 119 (0,0))) (hC:w.cell? ⟨C,0,none⟩=some (ae (some ⟨g,off,none⟩) L cap)) (RA:C<w.heap.size) (hg:g<w.heap.size) (hL:L=b.minutes.toNat) (hc:∀j u,((b.nz used p b.minutes.toNat).map (aD af))[j]?=some u->w.cell? ⟨g,off+j,none⟩=some u) :
  a_ aq 182 #[v,.func (.func 176) #[] #[dB (some ⟨B,0,none⟩),dB (some ⟨C,0,none⟩)]] w (Rt w (ag af (jQ b used p ms 0))):=by
 have HK:=ai lg;have HC:=ai hC;have HP:=ai hc;have HM:=ai hm;have AX:=hb.minutes;have SM:=hm.len;clear lg hC hc hm;rcases hv with⟨rfl,hn,hx0⟩|⟨gm,om,cm,rfl,hn,XC,hcm⟩
 .obtain rfl:ms=[]:=aX hn;clear hx0 hn
  go_enter Tryz.func182,Tryz.ntmps182
  go_wp2
  go_loopw [8] (fun i wr=>i=ag af 0/\Bw w wr) (fun _ _=>0)
  case atStart=>exact⟨rfl,ay _ _⟩
  case round=>
   obtain⟨rfl,eb⟩:=hrel;go_wp2
   go_ret
   exact⟨rfl,eb⟩
 have Qe:=ai hcm;clear hcm;generalize hM:ms.length=M at *;have HL:=ai hM;clear hM
 go_enter Tryz.func182,Tryz.ntmps182
 go_wp2
 go_loopw [5,8] (fun _ i wr=>∃k:Nat,k<=M/\i=ag af k/\jQ b used p ms 0=jQ b used p (ms.drop k) k/\Bw w wr) (fun _ i _=>M-(intOf i).toNat)
 case atStart=>exact⟨0,oM,rfl,rfl,ay _ _⟩
 case round=>
  obtain⟨k,hk,rfl,ly,eb⟩:=hrel;have hB1:=eb.size
  by_cases hlt:k<M
  .have jT:k<ms.length:=by rw[HL.out];exact hlt
   obtain⟨y0,y1,y2⟩:=wC (w:=wr) (fun j u hj=>(eb.cell (p:=⟨gm,om+j,none⟩) XC).trans (Qe.out j u hj)) k jT;have hx:=HM.out.mem ms[k] (List.getElem_mem jT);have hst:=Gk b used p ms k jT;rw[hst] at ly;clear hst;generalize ms[k]=x at *;obtain⟨mi,lo,hi⟩:=x;obtain⟨j,rfl⟩:∃j:Nat,mi=(j:Int)+1:=⟨(mi-1).toNat,by have:=hx.1;simp at this;omega⟩
   have hjm:j<b.minutes.toNat:=by have:=hx.2.1;simp at this;omega
   have UC:=b.OH hb hu p (j+1);have hcell:=HP.out j (ag af (b.yG used p (j+1))) (by simp[BB.nz,hjm]);have hT:=Ji b hb bm aH az lo hi (b.yG used p (j+1)) oM B C g off L cap j wr ((eb.block B (ah.1 HK.out).1).trans HK.out) ((eb.cell (p:=⟨C,0,none⟩) RA).trans HC.out) oM oM ((eb.cell (p:=⟨g,off+j,none⟩) hg).trans hcell) oM oM;rw[show(Mk.minute ⟨(j:Int)+1,lo,hi⟩).toNat=j+1 by show((j:Int)+1).toNat=j+1;omega] at ly;simp only[] at y0 y1 y2 ly;clear hx UC hcell hjm;cases hd:aV (b.RS (b.yG used p (j+1))) lo hi
   .rw[hd] at hT;simp only[hd,bE,if_false] at ly;have HB:=ai ly;have HT:=ai hT;clear ly hT hd
    go_wp2_with (go_at_call 176;refine HT.out.mono ?_;rintro e w2 ⟨rfl,hb2⟩)
    go_ret
    exact⟨ij HB.out.symm,eb.trans (hb2.mono hB1)⟩
   rw[hd] at hT;simp only[hd,if_true] at ly;have HB:=ai ly;have HT:=ai hT;clear ly hT hd
   go_wp2_with (go_at_call 176;refine HT.out.mono ?_;rintro e w2 ⟨rfl,hb2⟩)
   go_roundw
   case rel=>exact⟨k+1,oM,by go_num,HB.out,eb.trans (hb2.mono hB1)⟩
   case measure=>simp[intOf];omega
  obtain rfl:k=M:=oM;have e1:jQ b used p ms 0 = -1:=by rw[ly,<-HL.out];exact Jj b used p ms
  have HE:=ai e1;clear e1 ly;go_wp2
  go_ret
  exact⟨ij HE.out.symm,eb⟩
def A6(b:BB)(hb:b.Ok)(bm aH az:aj)(ms:List Mk)(hm:l9 b ms)(used:Int)(hu:0<=used)(p:Nat)(v:aj)(B C g off L cap:Nat)(w:ak)(hv:Reads w v ms.length (dM ms))
  (lg:w.heap[B]?=some (au (b.cells bm aH az) 119 (0,0))) (hC:w.cell? ⟨C,0,none⟩=some (ae (some ⟨g,off,none⟩) L cap)) (RA:C<w.heap.size) (hg:g<w.heap.size) (hL:L=b.minutes.toNat) (hc:∀j u,((b.nz used p b.minutes.toNat).map (aD af))[j]?=some u->w.cell? ⟨g,off+j,none⟩=some u) :
  a_ aq 175 #[v,.func (.func 176) #[] #[dB (some ⟨B,0,none⟩),dB (some ⟨C,0,none⟩)]] w (Rt w (aA (!xW b used p ms))):=by
 have hI:=Gl b hb bm aH az ms hm used hu p v B C g off L cap w hv lg hC RA hg hL hc;have hA:=Jk b used p ms 0;generalize jQ b used p ms 0=q at *;have HI:=ai hI;have HA:=ai hA;clear hI hv lg hC hc hA
 go_enter Tryz.func175,Tryz.ntmps175
 go_wp2_with (go_at_call 182;refine HI.out.mono ?_;rintro e w2 ⟨rfl,hb2⟩)
 go_ret
 exact⟨qu HA.out,hb2⟩
def Ef(b:BB)(hb:b.Ok)(bm aH az:aj)(a:dS)(ha:a.Ok)(p:Nat)(hp:p<512)(w:ak) :
  a_ aq 114 #[aN (b.cells bm aH az),aN a.cells,ag af p] w fun e w'=>∃g cap,∃cur:Array aj,e=aU (ae (some ⟨g,0,none⟩) b.minutes.toNat cap)/\w.heap.size<=g/\g<w'.heap.size/\b.minutes.toNat<=cap/\
   w'.heap[g]?=some (au cur 3 (0,0))/\(∀(j:Nat) (u:aj),((b.nz (b.cM+a.used) p b.minutes.toNat).map (aD af))[j]?=some u->cur[j]?=some u)/\Bw w w':=by
 refine(Eg b hb bm aH az a ha p hp w).mono ?_;rintro e w1 ⟨v,rfl,hown,hb1⟩;have hm:=hb.minutes;rcases hown.2 with⟨h0,h1⟩|⟨g,cap,cur,rfl,h2,h3,h4,h5,h6,h7⟩
 .have:=(h1:b.minutes.toNat=0)
  omega
 refine⟨g,cap,cur,rfl,h2,(ah.1 h3).1,h4,h3,fun j u hj=>?_,hb1⟩;rw[<-h7,List.getElem?_take] at hj;split at hj
 .simpa using hj
 cases hj
def aK{W:ak}{B:Nat}{cs:Array aj}{t:aZ}(h:W.heap[B]?=some (au cs t (0,0)))(i:Nat)(u:aj)(hi:cs[i]?=some u):W.cell? ⟨B,i,none⟩=some u:=by
 simp[dG,h,hi]
def cQ{W:ak}{B:Nat}{cs:Array aj}{t:aZ}(h:W.heap[B]?=some (au cs t (0,0)))(i:Nat):W.frozen? ⟨B,i,none⟩=false:=by
 simp[World.frozen?,h]
def BK{W:ak}{k:Nat}{z v:aj}{t:aZ}(h:W.heap[k]?=some (au #[z] t (0,0))):(W.setCell ⟨k,0,none⟩ v).heap[k]?=some (au #[v] t (0,0)):=by
 obtain⟨hk,h⟩:=ah.1 h;simp[ku,hk,h,BG]
structure Two(w:ak)(A:Array aj)(tA:aZ)(B:Array aj)(tB:aZ)(w':ak):Prop where
 one:w'.heap[w.heap.size]?=some (au A tA (0,0))
 two:w'.heap[w.heap.size+1]?=some (au B tB (0,0))
 below:Bw w w'
 size:w.heap.size+2<=w'.heap.size
def Two.mk'(w:ak)(A:Array aj)(tA:aZ)(B:Array aj)(tB:aZ):Two w A tA B tB ((w.alloc (au A tA)).alloc (au B tB)).drew:=
 ⟨(aW _ _ _ sM).trans (ax w _),by have:=ax (w.alloc (au A tA)) (au B tB);rwa [dQ] at this,
  (((ay _ w).alloc (aJ _) _).alloc sM _).drew,by show _<=((w.alloc _).alloc _).heap.size;simp⟩
def Two.next{w:ak}{A:Array aj}{tA:aZ}{B:Array aj}{tB:aZ}{w1 w2:ak}(h:Two w A tA B tB w1)(hb:Bw w1 w2):Two w A tA B tB w2:=by
 have hs:=h.size;exact⟨(hb.block _ oM).trans h.one,(hb.block _ oM).trans h.two,h.below.trans (hb.mono oM),aG hs hb.size⟩
def Two.store{w:ak}{A:Array aj}{tA:aZ}{B:Array aj}{tB:aZ}{w1:ak}(h:Two w A tA B tB w1){k i:Nat}(hk:w.heap.size+2<=k)(u:aj):Two w A tA B tB (w1.setCell ⟨k,i,none⟩ u):=
 ⟨(bp _ _ _ _ (by show _≠k;omega)).trans h.one,(bp _ _ _ _ (by show _≠k;omega)).trans h.two,h.below.setCell (by show _<=k;omega) u,by simpa using h.size⟩
def NI(b:BB)(hb:b.Ok)(bm aH az:aj)(ss:List Int)(hs:jD b ss)(ms:List Mk)(hm:l9 b ms)(a:dS)(ha:a.Ok)(w:ak)(YB:Reads w aH ss.length (ss.map (aD af)))(hvm:Reads w az ms.length (dM ms)) :
  a_ aq 143 #[aN (b.cells bm aH az),aN a.cells] w (Rt w (aA (xW b (b.cM+a.used) (bM ss) ms))):=by
 have AX:=hb.minutes;have pw:∀s∈ss,1<=s/\s<=8:=fun s h=>by have:=hs.mem s h;omega
 have Rk:bM ss<512:=nA ss pw
 go_enter Tryz.func143,Tryz.ntmps143
 go_wp2
 refine cj kQ [
 pV (aN (b.cells bm aH az)),
  pV (aN a.cells),
  pV (pv w.heap.size 0),
  pV (pv w.heap.size 13),
  pV (aH),
  pV (ag af (bM ss)),
  fun v ds w9=>∃g cap,∃cur:Array aj,v=ae (some ⟨g,0,none⟩) b.minutes.toNat cap/\w.heap.size+2<=g/\b.minutes.toNat<=cap/\w9.heap[g]?=some (au cur 3 (0,0))/\∀(j:Nat) (u:aj),((b.nz (b.cM+a.used) (bM ss) b.minutes.toNat).map (aD af))[j]?=some u->cur[j]?=some u,
  fun v ds w9=>∃k z,v=pv k 0/\w.heap.size+2<=k/\w9.heap[k]?=some (au #[z] 25 (0,0)),
  fun v ds w9=>∃k z,ds[0]?=some (pv k 0)/\ds[1]?=some z/\w9.heap[k]?=some (au #[z] 25 (0,0))]
  (Two w (b.cells bm aH az) 119 a.cells 134) [(2,pv w.heap.size 0),(3,pv (w.heap.size+1) 0)] kQ ?rst (fun w1 w2 h hb=>h.next hb) (Two.mk' _ _ _ _ _) ⟨rfl,rfl,trivial⟩ ?reach ?rfin
 case rst=>
  refine⟨sV,sV,sV,sV,sV,sV,?_,?_,?_,trivial⟩
  .rintro v ds w1 w2 hS ⟨g,cap,cur,h1,h2,h3,h4,h5⟩ hb;exact⟨g,cap,cur,h1,h2,h3,(hb.block g (ah.1 h4).1).trans h4,h5⟩
  .rintro v ds w1 w2 hS ⟨k,z,h1,h2,h3⟩ hb;exact⟨k,z,h1,h2,(hb.block k (ah.1 h3).1).trans h3⟩
  rintro v ds w1 w2 hS ⟨k,z,h1,h2,h3⟩ hb;exact⟨k,z,h1,h2,(hb.block k (ah.1 h3).1).trans h3⟩
 case reach=>
  refine⟨?_,?_,?_,?_,?_,?_,?_,?_,?_,trivial⟩<;>rintro ev w1 hS hc hg hf ⟨b2,b3,-⟩ hd
  .have x0:=aK hS.one 0 _ rfl;have x1:=aK hS.one 1 _ rfl;have x2:=aK hS.one 2 _ rfl;have x3:=aK hS.one 3 _ rfl;have x4:=aK hS.one 4 _ rfl;have x5:=aK hS.one 5 _ rfl;have x6:=aK hS.one 6 _ rfl;have x7:=aK hS.one 7 _ rfl;have x8:=aK hS.one 8 _ rfl;have x9:=aK hS.one 9 _ rfl;have qo:=aK hS.one 10 _ rfl;have qm:=aK hS.one 11 _ rfl;have rj:=aK hS.one 12 _ rfl;have qX:=aK hS.one 13 _ rfl;have q7:=aK hS.one 14 _ rfl;exact tV
  .have y0:=aK hS.two 0 _ rfl;have y1:=aK hS.two 1 _ rfl;have y2:=aK hS.two 2 _ rfl;have y3:=aK hS.two 3 _ rfl;exact tV
  .exact tV
  .have d2:ev (.tmp 8)=_:=hd.1 rfl;exact tV
  .have d3:ev (.tmp 9)=_:=hd.1 rfl;have qX:=aK hS.one 13 _ rfl;exact tV
  .have d4:ev (.tmp 10)=_:=hd.1 rfl;refine yq (args:=#[aH]) (lL ss pw aH _ (YB.below hS.below)) ?_ fun _=>rfl;go_simp
  .have d0:ev (.tmp 6)=_:=hd.1 rfl;have d1:ev (.tmp 7)=_:=hd.2.1 rfl;have d5:ev (.tmp 11)=_:=hd.2.2.1 rfl;refine Lag.Yields.call (f:=114) (args:=#[aN (b.cells bm aH az),aN a.cells,ag af (bM ss)]) ?_ (Ef b hb bm aH az a ha (bM ss) Rk _) ?_
   .go_simp
   rintro e w2 ⟨g,cap,cur,rfl,h1,h2,h3,h4,h5,h6⟩;exact⟨_,rfl,⟨g,cap,cur,rfl,aG hS.size h1,h3,h4,h5⟩,cz h6⟩
  .refine Lag.Yields.value (v:=pv w1.heap.size 0) (w':=w1.alloc (au #[ae none 0 0] 25)) ?_ ⟨⟨_,_,rfl,hS.size,ax _ _⟩,cz cY⟩;go_simp
  obtain⟨k,z,e5,hk,hkb⟩:=hd.1 rfl;replace e5:ev (.tmp 5)=_:=e5;obtain⟨g,cap,cur,Y7,hg,hgc,hgb,qE⟩:=hd.2.1 rfl;replace Y7:ev (.tmp 12)=_:=Y7;have Di:g≠k:=by rintro rfl;rw[hgb] at hkb;cases hkb
  have c1:=aK hkb 0 _ rfl;have c2:=cQ hkb 0;refine Lag.Yields.skip (w':=w1.setCell ⟨k,0,none⟩ (ae (some ⟨g,0,none⟩) b.minutes.toNat cap)) ?_ ⟨⟨k,_,congrArg some e5,congrArg some Y7,BK hkb⟩,.inr ⟨hS.store hk _,?_⟩⟩
  .go_simp
  .intro j u ds hj hp
   match j,hp with
   |0,hp|1,hp|2,hp|3,hp|4,hp|5,hp=>exact hp
   |6,⟨g',cap',cur',h1,h2,h3,h4,h5⟩=>exact⟨g',cap',cur',h1,h2,h3,(bp _ _ _ _ (by rintro rfl;rw[h4] at hkb;cases hkb)).trans h4,h5⟩
   |7,⟨k',z',h1,h2,h3⟩=>
    by_cases rE:k'=k
    .subst rE;exact⟨k',_,h1,h2,BK h3⟩
    exact⟨k',z',h1,h2,(bp _ _ _ _ rE).trans h3⟩
   |8,_=>exact(hj rfl).elim
   |j+9,_=>trivial
 case rfin=>
  intro a2 w2 hR;have hS:=hR.s;have e6:∃g cap,∃cur:Array aj,(a2.tmps.getD 12 ar)=ae (some ⟨g,0,none⟩) b.minutes.toNat cap/\w.heap.size+2<=g/\b.minutes.toNat<=cap/\w2.heap[g]?=some (au cur 3 (0,0))/\∀(j:Nat) (u:aj),((b.nz (b.cM+a.used) (bM ss) b.minutes.toNat).map (aD af))[j]?=some u->cur[j]?=some u:=hR.val 6;have e7:∃k z,(a2.tmps.getD 5 ar)=pv k 0/\w.heap.size+2<=k/\w2.heap[k]?=some (au #[z] 25 (0,0)):=hR.val 7;have e8:∃k z,([a2.tmps.getD 5 ar,a2.tmps.getD 12 ar,a2.tmps.getD 12 ar,a2.tmps.getD 6 ar,a2.tmps.getD 7 ar,a2.tmps.getD 8 ar,a2.tmps.getD 9 ar,a2.tmps.getD 10 ar,a2.tmps.getD 11 ar,a2.tmps.getD 12 ar,a2.tmps.getD 5 ar]:List aj)[0]?=some (pv k 0)/\([a2.tmps.getD 5 ar,a2.tmps.getD 12 ar,a2.tmps.getD 12 ar,a2.tmps.getD 6 ar,a2.tmps.getD 7 ar,a2.tmps.getD 8 ar,a2.tmps.getD 9 ar,a2.tmps.getD 10 ar,a2.tmps.getD 11 ar,a2.tmps.getD 12 ar,a2.tmps.getD 5 ar]:List aj)[1]?=some z/\w2.heap[k]?=some (au #[z] 25 (0,0)):=hR.val 8;have k0:a2.tmps.getD 0 ar=aN (b.cells bm aH az):=hR.kept kQ;have k1:a2.tmps.getD 1 ar=aN a.cells:=hR.kept kQ;have k2:a2.tmps.getD 2 ar=pv w.heap.size 0:=hR.kept kQ;have k3:a2.tmps.getD 3 ar=pv (w.heap.size+1) 0:=hR.kept kQ;have k4:a2.tmps.getD 4 ar=aA false:=hR.kept kQ;have ha_:a2=⟨#[a2.tmps.getD 0 ar,a2.tmps.getD 1 ar,a2.tmps.getD 2 ar,a2.tmps.getD 3 ar,a2.tmps.getD 4 ar,a2.tmps.getD 5 ar,a2.tmps.getD 6 ar,a2.tmps.getD 7 ar,a2.tmps.getD 8 ar,a2.tmps.getD 9 ar,a2.tmps.getD 10 ar,a2.tmps.getD 11 ar,a2.tmps.getD 12 ar,a2.tmps.getD 13 ar,a2.tmps.getD 14 ar,a2.tmps.getD 15 ar,a2.tmps.getD 16 ar,a2.tmps.getD 17 ar,a2.tmps.getD 18 ar],[]⟩:=hR.act;clear hR;obtain⟨k,z,h5,hk,hkb⟩:=e7;obtain⟨g,cap,cur,XL,hg,hgc,hgb,qE⟩:=e6;obtain⟨k',z',h5',aee,hkb'⟩:=e8;have q1:k'=k:=by have:=h5.symm.trans (a7 h5');simpa using this.symm
  have q2:z'=ae (some ⟨g,0,none⟩) b.minutes.toNat cap:=(a7 aee).symm.trans XL;subst q1;subst q2;have adz:=aK hS.one 14 _ rfl;have ajG:=hS.one;have hk2:=aK hkb' 0 _ rfl
  have hcon:=A6 b hb bm aH az ms hm (b.cM+a.used) (by have:=hb.cM;have:=ha.leak;have:=ha.m0;have:=ha.m1;have:=ha.m2;simp only[dS.used];omega) (bM ss) az w.heap.size k' g 0 b.minutes.toNat cap w2 (hvm.below hS.below) hS.one (aK hkb' 0 _ rfl) (ah.1 hkb').1 (ah.1 hgb).1 rfl
   (fun j u hj=>aK hgb _ _ (by rw[cO];exact qE j u hj))
  have r7:=hS.below;rw[k0,k1,k2,k3,k4,h5] at ha_;clear qE hS YB hvm h5' aee XL h5 k0 k1 k2 k3 k4 hgb hkb hkb';generalize a2.tmps.getD 6 ar=t6,a2.tmps.getD 7 ar=t7,a2.tmps.getD 8 ar=t8,a2.tmps.getD 9 ar=t9,a2.tmps.getD 10 ar=t10,a2.tmps.getD 11 ar=t11,a2.tmps.getD 12 ar=t12,a2.tmps.getD 13 ar=t13,a2.tmps.getD 14 ar=t14,a2.tmps.getD 15 ar=t15,a2.tmps.getD 16 ar=t16,a2.tmps.getD 17 ar=t17,a2.tmps.getD 18 ar=t18 at ha_;subst ha_;have HC:=ai hcon;clear hcon
  go_wp2_with (first|(go_at_call 175;refine HC.out.mono ?_;clear HC;rintro e w3 ⟨rfl,hb3⟩))
  go_ret
  exact⟨sM,r7.trans (hb3.mono r7.size)⟩
end Go.Proofs.YtffladgmkiimjaaGreatDoor
namespace Go.Lag
open Go.RowKit
structure Step(X X':Nat->Prop)(W W':ak):Prop where
 os:W'.os=W.os
 tape:W'.tape=W.tape
 output:W'.output=W.output
 size:W.heap.size<=W'.heap.size
 old:∀k,k<W.heap.size->X' k->X k
 same:∀k,k<W.heap.size->¬X k->W'.heap[k]?=W.heap[k]?
def Step.refl(X:Nat->Prop)(W:ak):Step X X W W:=⟨rfl,rfl,rfl,aJ _,fun _ _ h=>h,fun _ _ _=>rfl⟩
def Step.trans{X Y Z:Nat->Prop}{A B C:ak}(h:Step X Y A B)(k:Step Y Z B C):Step X Z A C:=
 ⟨k.os.trans h.os,k.tape.trans h.tape,k.output.trans h.output,aG h.size k.size,
  fun i hi hz=>h.old i hi (k.old i (bD hi h.size) hz),
  fun i hi hx=>(k.same i (bD hi h.size) (fun hy=>hx (h.old i hi hy))).trans (h.same i hi hx)⟩
def Step.of_below{X:Nat->Prop}{W W':ak}(h:Bw W W'):Step X X W W':=
 ⟨h.os,h.tape,h.output,h.size,fun _ _ h=>h,fun k hk _=>h.block k hk⟩
def Step.below{X X':Nat->Prop}{W W':ak}(h:Step X X' W W'){n:Nat}(hn:n<=W.heap.size)(hx:∀k,k<n->¬X k):fX n W W':=
 ⟨h.os,h.tape,h.output,h.size,fun k hk=>h.same k (bD hk hn) (hx k hk)⟩
def Abides{β:Type}(J:β->(Nat->Prop)->ak->Prop):Prop:=
 ∀s X W W',J s X W->(∀k,X k->W'.heap[k]?=W.heap[k]?)->J s X W'
def CJ{β:Type}(J:β->(Nat->Prop)->ak->Prop):Prop:=∀s X W,J s X W->∀k,X k->k<W.heap.size
def aby{α:Type}(P:aL)(g:Nat)(la:Array aj)(encs:α->Array aj)(all:List α)(w:ak):Prop:=
 ∀(l:Nat) (J Jx:List α->(Nat->Prop)->ak->Prop) (X:Nat->Prop) (W:ak),
  Bw w W->(∀k,X k->w.heap.size<=k/\k<W.heap.size)->Abides J->Abides Jx->CJ J->CJ Jx->
  (∀m pre x X1 W1,J pre X1 W1->(∀k,X1 k->w.heap.size<=k)->pre++[x] <+: all->YieldAt Fence.wide m P l (encs x) W1 fun e W'=>∃X2,Step X1 X2 W1 W'/\
   ((e=aU (aA true)/\J (pre++[x]) X2 W')\/(e=aU (aA false)/\Jx (pre++[x]) X2 W')))->
  J [] X W->
  a_ P g (la++#[.func (.yield l) #[] #[]]) W fun e W'=>(∃v,e=aU v)/\∃X2,Step X X2 W W'/\(J all X2 W'\/∃pre,Jx pre X2 W')
def acE{α:Type}(I:List α->(Nat->Prop)->ak->Prop)(Ix:Code->List α->(Nat->Prop)->ak->Prop)(X:Nat->Prop)(xs:List α)(W:ak):Exit->k9->ak->Prop
 |.normal,_,W'=>∃X2,Step X X2 W W'/\I xs X2 W'
 |.ret,_,W'=>∃X2,Step X X2 W W'/\Ix .ret xs X2 W'
 |.exit id,_,W'=>∃X2,Step X X2 W W'/\Ix (.exit id) xs X2 W'
 |.goto t,_,W'=>∃X2,Step X X2 W W'/\Ix (.goto t) xs X2 W'
 |.panic _,_,_=>False
 |.outgrown,_,_=>False
def sD{α:Type}{P:aL}{n:Nat}{g:bI}{ps:Array kG}{assign body:Code}{Q:Exit->k9->ak->Prop}{a:k9}{w:ak}
  {gf:Nat} {la:Array aj} (hg:a.eval g=.func (.func gf) la #[]) (eg:∀args w,(callFunc gf args).run P w=.ok (.enter gf args) w)
  {encs:α->Array aj} {all:List α} {w0:ak} (hseq:aby P gf la encs all w0) (hb0:Bw w0 w) (Xt:∀x,(encs x).size=ps.size)
  (I:List α->(Nat->Prop)->ak->Prop) (Ix:Code->List α->(Nat->Prop)->ak->Prop) (hI:Abides I) (hIx:∀c,Abides (Ix c)) (hIb:CJ I) (ahG:∀c,CJ (Ix c))
  (X:Nat->Prop) (hX:∀k,X k->w0.heap.size<=k/\k<w.heap.size) (h0:I [] X w)
  (A:List α->α->k9->(Nat->Prop)->ak->Prop) (hA:∀pre x,Abides (A pre x))
  (XJ:∀(l m:Nat) (pre:List α) (x:α) (X1:Nat->Prop) (W:ak) (K:k9->ak->Prop),I pre X1 W->(∀k,X1 k->w0.heap.size<=k)->pre++[x] <+: all->(∀a' X2 W',Step X1 X2 W W'->A pre x a' X2 W'->K a' W')->
   assign.wpIn (Fence.wide.inRound l) m P (Exit.then K (fun _ _ _=>False)) { tmps:=(ps.zip (encs x)).foldl (fun t (p,v)=>t.setIfInBounds p v) a.tmps,defers:=[] } W)
  (adX:∀(l m:Nat) (pre:List α) (x:α) (a':k9) (X1:Nat->Prop) (W:ak),A pre x a' X1 W->(∀k,X1 k->w0.heap.size<=k)->pre++[x] <+: all->body.wpIn (Fence.wide.inRound l) m P (acE I Ix X1 (pre++[x]) W) a' W)
  (hdone:∀(D:Nat) (X2:Nat->Prop) (W:ak),w.heap.size<=D->¬X2 D->Step X X2 w W->I all X2 W->W.heap[D]?=some (.deferred (some []))->Q .normal { a with defers:={ target:=.collected D,args:=#[] }::a.defers } W)
  (Ch:∀(D:Nat) (c:Code) (pre:List α) (X2:Nat->Prop) (W:ak),w.heap.size<=D->¬X2 D->Step X X2 w W->Ix c pre X2 W->W.heap[D]?=some (.deferred (some []))->c.wpIn Fence.wide n P Q { a with defers:={ target:=.collected D,args:=#[] }::a.defers } W) :
  (Code.rangeFunc g ps assign body).wpIn Fence.wide n P Q a w:=by
 refine wpIn_rangeFunc ?_;intro fn hfn;rw[show Fence.wide.round=none from rfl];obtain⟨rec,Ju⟩:∃rec:LoopState->Option Code->Loop,rec=fun st pe=>{ state:=st,pending:=pe,fn,tmps:=a.tmps,params:=ps,assign,body,defers:=w.heap.size }:=⟨_,rfl⟩
 obtain⟨W1,hW1⟩:∃W1,(w.alloc (.deferred (some []))).alloc (.loop (rec .ready none))=W1:=⟨_,rfl⟩
 have hL1:W1.heap[w.heap.size+1]?=some (.loop (rec .ready none)):=by
  rw[<-hW1];have:=ax (w.alloc (.deferred (some []))) (.loop (rec .ready none));rwa [dQ] at this
 have hK1:W1.heap[w.heap.size]?=some (.deferred (some [])):=by
  rw[<-hW1];exact(aW _ _ _ (by simp)).trans (ax w _)
 have r5:Bw w W1:=by rw[<-hW1];exact((ay _ w).alloc (aJ _) _).alloc (by simp) _
 have hs1:W1.heap.size=w.heap.size+2:=by rw[<-hW1];simp
 have hI1:I [] X W1:=hI _ _ _ _ h0 (fun k hk=>r5.block k (hX k hk).2);have hb1:Bw w0 W1:=hb0.trans (r5.mono hb0.size)
 refine⟨w.heap.size+1,[{ target:=.collected w.heap.size,args:=#[] }],W1,{ target:=.fn (.func gf) #[],args:=la++#[.func (.yield (w.heap.size+1)) #[] #[]] },W1,gf,
  la++#[.func (.yield (w.heap.size+1)) #[] #[]],W1,?_,?_,?_,?_,(fun h=>by cases h),?_⟩
 .rw[<-hW1,Ju];exact run_enterLoop_outer _ _ _ _ _
 .simp only[resolve,hg];simp[go_sem]
 .intro f' hf';trivial
 .simp[invoke,go_sem,eg]
 rw[callsIn_wide]
 refine(hseq (w.heap.size+1)
  (fun pre Y W=>∃Z:Nat->Prop,Y=(fun k=>Z k\/k=w.heap.size\/k=w.heap.size+1)/\(∀k,Z k->k≠w.heap.size/\k≠w.heap.size+1)/\I pre Z W/\W.heap[w.heap.size+1]?=some (.loop (rec .ready none))/\W.heap[w.heap.size]?=some (.deferred (some [])))
  (fun pre Y W=>∃(Z:Nat->Prop) (c:Code),Y=(fun k=>Z k\/k=w.heap.size\/k=w.heap.size+1)/\(∀k,Z k->k≠w.heap.size/\k≠w.heap.size+1)/\Ix c pre Z W/\W.heap[w.heap.size+1]?=some (.loop (rec .done (some c)))/\W.heap[w.heap.size]?=some (.deferred (some [])))
  (fun k=>X k\/k=w.heap.size\/k=w.heap.size+1) W1 hb1 ?_ ?_ ?_ ?_ ?_ ?_ ?_).mono ?_
 .rintro k (hk|rfl|rfl)
  .have:=hX k hk;exact⟨this.1,by omega⟩
  .have:=hb0.size;exact⟨this,by omega⟩
  have:=hb0.size;exact⟨by omega,by omega⟩
 .rintro pre Y W W' ⟨Z,rfl,hz,hi,hl,hk⟩ hs;exact⟨Z,rfl,hz,hI _ _ _ _ hi (fun k h=>hs k (cz h)),(hs _ (.inr (.inr rfl))).trans hl,(hs _ (.inr (cz rfl))).trans hk⟩
 .rintro pre Y W W' ⟨Z,c,rfl,hz,hi,hl,hk⟩ hs;exact⟨Z,c,rfl,hz,hIx _ _ _ _ _ hi (fun k h=>hs k (cz h)),(hs _ (.inr (.inr rfl))).trans hl,(hs _ (.inr (cz rfl))).trans hk⟩
 .rintro pre Y W ⟨Z,rfl,hz,hi,hl,hk⟩ k (qY|rfl|rfl)
  .exact hIb _ _ _ hi k qY
  .exact(ah.1 hk).1
  exact(ah.1 hl).1
 .rintro pre Y W ⟨Z,c,rfl,hz,hi,hl,hk⟩ k (qY|rfl|rfl)
  .exact ahG _ _ _ _ hi k qY
  .exact(ah.1 hk).1
  exact(ah.1 hl).1
 .rintro m pre x Y W ⟨Z,rfl,hz,hi,hl,hk⟩ hge hpre;have aav:∀k,Z k->w0.heap.size<=k:=fun k h=>hge k (cz h);have hlt:w.heap.size+1<W.heap.size:=(ah.1 hl).1;have hy:=run_yield (P:=P) (args:=encs x) hl (by rw[Ju];exact Xt x);rw[Ju] at hy;refine⟨fn,_,assign,body,hy,roundIn_of_wpIn hfn (XJ _ m pre x Z W _ hi aav hpre ?_)⟩;intro a' Z2 W2 hst ha;have hz1:∀k,Z k->k≠w.heap.size/\k≠w.heap.size+1:=hz;have hl1:W2.heap[w.heap.size+1]?=some (.loop (rec .ready none)):=(hst.same _ hlt (fun h=>(hz _ h).2 rfl)).trans hl;have pP:W2.heap[w.heap.size]?=some (.deferred (some [])):=(hst.same _ (by omega) (fun h=>(hz _ h).1 rfl)).trans hk;have hlt2:w.heap.size+1<W2.heap.size:=(ah.1 hl1).1;have hz2:∀k,Z2 k->k≠w.heap.size/\k≠w.heap.size+1:=fun k h=>⟨fun e=>(hz k (hst.old k (by omega) h)).1 e,fun e=>(hz k (hst.old k (by omega) h)).2 e⟩
  refine⟨_,run_beginRound hl1 (by rw[Ju]),?_⟩;obtain⟨W3,hW3⟩:∃W3,W2.putObj (w.heap.size+1) (.loop { rec .ready none with state:=.busy })=W3:=⟨_,rfl⟩
  have hl3:W3.heap[w.heap.size+1]?=some (.loop { rec .ready none with state:=.busy }):=by rw[<-hW3];exact World.putObj_heap_same hlt2
  have hk3:W3.heap[w.heap.size]?=some (.deferred (some [])):=by rw[<-hW3];exact(dD (by omega)).trans pP
  have hp3:∀k,k≠w.heap.size+1->W3.heap[k]?=W2.heap[k]?:=fun k h=>by rw[<-hW3];exact dD (by omega)
  have h3s:W3.heap.size=W2.heap.size:=by rw[<-hW3];simp
  have h3o:W3.os=W2.os/\W3.tape=W2.tape/\W3.output=W2.output:=by rw[<-hW3];exact⟨rfl,rfl,rfl⟩
  have ahg:∀k,Z2 k->w0.heap.size<=k:=fun k h=>by
   by_cases hc:k<W.heap.size
   .exact aav k (hst.old k hc h)
   have:=hb0.size;omega
  have ha3:=hA _ _ _ _ _ W3 ha (fun k h=>hp3 k (hz2 k h).2);simp only[hW3];refine wpIn_mono (adX _ m pre x a' Z2 W3 ha3 ahg hpre) ?_
  have fin:∀(jump:Option Code) (Z4:Nat->Prop) (W4:ak),Step Z2 Z4 W3 W4->
    (Instr.endRound (w.heap.size+1) jump).run P W4=.ok (aA jump.isNone) (W4.putObj (w.heap.size+1) (.loop (rec (if jump.isNone then .ready else .done) jump)))/\
    (∀k,Z4 k->k≠w.heap.size/\k≠w.heap.size+1)/\
    (∀k,Z4 k->(W4.putObj (w.heap.size+1) (.loop (rec (if jump.isNone then .ready else .done) jump))).heap[k]?=W4.heap[k]?)/\
    (W4.putObj (w.heap.size+1) (.loop (rec (if jump.isNone then .ready else .done) jump))).heap[w.heap.size+1]?=some (.loop (rec (if jump.isNone then .ready else .done) jump))/\
    (W4.putObj (w.heap.size+1) (.loop (rec (if jump.isNone then .ready else .done) jump))).heap[w.heap.size]?=some (.deferred (some []))/\
    Step (fun k=>Z k\/k=w.heap.size\/k=w.heap.size+1) (fun k=>Z4 k\/k=w.heap.size\/k=w.heap.size+1) W (W4.putObj (w.heap.size+1) (.loop (rec (if jump.isNone then .ready else .done) jump))):=fun jump Z4 W4 h4=>by
   have hl4:W4.heap[w.heap.size+1]?=some (.loop { rec .ready none with state:=.busy }):=(h4.same _ (by omega) (fun h=>(hz2 _ h).2 rfl)).trans hl3;have hk4:W4.heap[w.heap.size]?=some (.deferred (some [])):=(h4.same _ (by omega) (fun h=>(hz2 _ h).1 rfl)).trans hk3;have VQ:∀k,Z4 k->k≠w.heap.size/\k≠w.heap.size+1:=fun k h=>⟨fun e=>(hz2 k (h4.old k (by omega) h)).1 e,fun e=>(hz2 k (h4.old k (by omega) h)).2 e⟩
   have:=run_endRound (P:=P) jump hl4;have h4s:=h4.size;have pw:=hst.size
   refine⟨by rw[Ju] at this ⊢;exact this,VQ,fun k h=>dD (fun e=>(VQ k h).2 (by omega)),World.putObj_heap_same (ah.1 hl4).1,(dD (by omega)).trans hk4,
    ⟨h4.os.trans (h3o.1.trans hst.os),h4.tape.trans (h3o.2.1.trans hst.tape),h4.output.trans (h3o.2.2.trans hst.output),by simp;omega,?_,?_⟩⟩
   .rintro k hk (h|h)
    .exact cz (hst.old k hk (h4.old k (by omega) h))
    exact .inr h
   intro k hk hn;have uB:¬Z k:=fun h=>hn (cz h);have yN:k≠w.heap.size+1:=fun h=>hn (.inr (.inr h));have hn3:¬Z2 k:=fun h=>uB (hst.old k hk h);exact(dD (by omega)).trans ((h4.same k (by omega) hn3).trans ((hp3 k yN).trans (hst.same k hk uB)))
  rintro e a4 W4 hp;cases e with
  |normal=>
   obtain⟨Z4,h4,hi4⟩:=hp;obtain⟨hr,VQ,EE,hl5,hk5,hstep⟩:=fin none Z4 W4 h4;exact⟨_,_,hr,_,hstep,cz ⟨rfl,Z4,rfl,VQ,hI _ _ _ _ hi4 EE,hl5,hk5⟩⟩
  |ret=>
   obtain⟨Z4,h4,hi4⟩:=hp;obtain⟨hr,VQ,EE,hl5,hk5,hstep⟩:=fin (some .ret) Z4 W4 h4;exact⟨_,_,hr,_,hstep,.inr ⟨rfl,Z4,.ret,rfl,VQ,hIx _ _ _ _ _ hi4 EE,hl5,hk5⟩⟩
  |exit id=>
   obtain⟨Z4,h4,hi4⟩:=hp;obtain⟨hr,VQ,EE,hl5,hk5,hstep⟩:=fin (some (.exit id)) Z4 W4 h4;exact⟨_,_,hr,_,hstep,.inr ⟨rfl,Z4,.exit id,rfl,VQ,hIx _ _ _ _ _ hi4 EE,hl5,hk5⟩⟩
  |goto t=>
   obtain⟨Z4,h4,hi4⟩:=hp;obtain⟨hr,VQ,EE,hl5,hk5,hstep⟩:=fin (some (.goto t)) Z4 W4 h4;exact⟨_,_,hr,_,hstep,.inr ⟨rfl,Z4,.goto t,rfl,VQ,hIx _ _ _ _ _ hi4 EE,hl5,hk5⟩⟩
  |panic ch=>exact hp.elim
  |outgrown=>exact hp.elim
 .exact⟨X,rfl,fun k h=>by have:=(hX k h).2;omega,hI1,hL1,hK1⟩
 have key:∀(Z:Nat->Prop) (W2:ak) (o:Obj),Step (fun k=>X k\/k=w.heap.size\/k=w.heap.size+1) (fun k=>Z k\/k=w.heap.size\/k=w.heap.size+1) W1 W2->Step X Z w (W2.putObj (w.heap.size+1) o):=fun Z W2 o h=>
  ⟨h.os.trans r5.os,h.tape.trans r5.tape,h.output.trans r5.output,by have:=h.size;simp;omega,fun k hk hz=>by
   rcases h.old k (by omega) (cz hz) with h|h|h
   .exact h
   .omega
   .omega,fun k hk hn=>(dD (by omega)).trans ((h.same k (by omega) (fun h=>by
   rcases h with h|h|h
   .exact hn h
   .omega
   omega)).trans (r5.block k hk))⟩
 rintro e W2 ⟨⟨v,rfl⟩,Y,hstep,(⟨Z,rfl,hz,hi,hl,hk⟩|⟨pre,Z,c,rfl,hz,hi,hl,hk⟩)⟩
 .exact⟨none,_,by have:=run_endLoop (P:=P) hl (by rw[Ju];simp);rw[Ju] at this;exact this,hdone _ Z _ (aJ _) (fun h=>(hz _ h).1 rfl) (key Z W2 _ hstep) (hI _ _ _ _ hi (fun k h=>dD (fun e=>(hz k h).2 (by omega)))) ((dD (by omega)).trans hk)⟩
 exact⟨some c,_,by have:=run_endLoop (P:=P) hl (by rw[Ju];simp);rw[Ju] at this;exact this,Ch _ c pre Z _ (aJ _) (fun h=>(hz _ h).1 rfl) (key Z W2 _ hstep) (hIx _ _ _ _ _ hi (fun k h=>dD (fun e=>(hz k h).2 (by omega)))) ((dD (by omega)).trans hk)⟩
end Go.Lag
namespace Go.Proofs.YtffladgmkiimjaaGreatDoor
open Go.RowKit Go.Lag
attribute [local go_sem] Oper.semAt_some
def dS.put(a:dS)(lU:Nat)(n:Int):dS:=
 match lU with
 |0=>{ a with m0:=n }
 |1=>{ a with m1:=n }
 |_=>{ a with m2:=n }
def eI(lo hi:Int):List Int:=(aQ (hi+1-lo).toNat).map fun(i:Nat)=>lo+i
def leaves(ok:dS->Bool):List Mn->Nat->dS->List dS
 |[],_,a=>if ok a then[a] else[]
 |m::r,lU,a=>(eI m.lo m.hi).flatMap fun n=>leaves ok r (lU+1) (a.put lU n)
def iv(b:BB)(ss:List Int)(ms:List Mk)(a:dS):Bool:=xW b (b.cM+a.used) (bM ss) ms
def aT(b:BB)(ml:List Mn)(ss:List Int)(ms:List Mk):List dS:=(eI b.ll b.lm).flatMap fun n=>leaves (iv b ss ms) ml 0 ⟨n,0,0,0⟩
def dS.Nr{a:dS}(h:a.Ok)(lU:Nat){n:Int}(h1:0<=n)(h2:n<=99):(a.put lU n).Ok:=by
 obtain⟨p,q,r,s⟩:=h
 match lU with
 |0=>exact⟨p,⟨h1,h2⟩,r,s⟩
 |1=>exact⟨p,q,⟨h1,h2⟩,s⟩
 |k+2=>exact⟨p,q,r,⟨h1,h2⟩⟩
def dS.Wy(a:dS)(lU:Nat)(n z:Int):(a.put lU z).put lU n=a.put lU n:=by
 match lU with
 |0=>rfl
 |1=>rfl
 |k+2=>rfl
def IC{X X':Nat->Prop}{W W':ak}(h:Step X X' W W'){l i:Nat}(u:aj)(hl:W.heap.size<=l):Step X X' W (W'.setCell ⟨l,i,none⟩ u):=
 ⟨h.os,h.tape,h.output,by simpa using h.size,h.old,fun k hk hx=>(bp _ _ _ _ (by show k≠l;omega)).trans (h.same k hk hx)⟩
structure GR(b:BB)(bm aH az:aj)(w0:ak)(bk yk nk l:Nat)(X:Nat->Prop)(W:ak):Prop where
 below:Bw w0 W
 lg:W.heap[bk]?=some (au (b.cells bm aH az) 119 (0,0))
 hyk:W.heap[yk]?=some (au #[.func (.yield l) #[] #[]] 159 (0,0))
 hnk:W.heap[nk]?=some (au #[.func (.func 169) #[] #[pv bk 0,pv yk 0,pv nk 0]] 181 (0,0))
 xb:¬X bk
 xy:¬X yk
 xn:¬X nk
 ge:∀k,X k->w0.heap.size<=k
def GR.step{b:BB}{bm aH az:aj}{w0:ak}{bk yk nk l:Nat}{X X2:Nat->Prop}{W W':ak}(h:GR b bm aH az w0 bk yk nk l X W)(hs:Step X X2 W W'):GR b bm aH az w0 bk yk nk l X2 W':=by
 have l1:=(ah.1 h.lg).1;have l2:=(ah.1 h.hyk).1;have l3:=(ah.1 h.hnk).1;refine⟨h.below.trans (hs.below h.below.size fun k hk hx=>?_),(hs.same _ l1 h.xb).trans h.lg,(hs.same _ l2 h.xy).trans h.hyk,(hs.same _ l3 h.xn).trans h.hnk,fun hx=>h.xb (hs.old _ l1 hx),fun hx=>h.xy (hs.old _ l2 hx),fun hx=>h.xn (hs.old _ l3 hx),fun k hx=>?_⟩
 .have:=h.ge k hx;omega
 by_cases hk:k<W.heap.size
 .exact h.ge k (hs.old k hk hx)
 have:=h.below.size;omega
def aR{w:ak}{v:aj}{n:Nat}{xs:List aj}(h:Reads w v n xs):∃p cap,v=ae p n cap/\n<=4294967296:=by
 rcases h with⟨rfl,rfl,_⟩|⟨g,off,cap,rfl,h,_⟩
 .exact⟨_,_,rfl,oM⟩
 exact⟨_,_,rfl,h.1⟩
def Vp{α:Type}(P:aL)(l:Nat)(encs:α->Array aj)(n0:Nat)(all:List α)(J Jx:List α->(Nat->Prop)->ak->Prop):Prop:=
 ∀m pre x X1 W1,J pre X1 W1->(∀k,X1 k->n0<=k)->pre++[x] <+: all->YieldAt Fence.wide m P l (encs x) W1 fun e W'=>∃X2,Step X1 X2 W1 W'/\
   ((e=aU (aA true)/\J (pre++[x]) X2 W')\/(e=aU (aA false)/\Jx (pre++[x]) X2 W'))
abbrev RR(a:dS):Array Value:=#[aN a.cells]
def Qb(J Jx:List dS->(Nat->Prop)->ak->Prop)(X:Nat->Prop)(W:ak)(pre ys:List dS)(e:Ending)(W':ak):Prop:=
 ∃X2,Step X X2 W W'/\((e=aU (aA true)/\J (pre++ys) X2 W')\/(e=aU (aA false)/\∃q,Jx q X2 W'))
def QZ(b:BB)(bm aH az:aj)(ml:List Mn)(ss:List Int)(ms:List Mk)(w0:ak)(hB:bW b bm aH az ml ss ms w0)(bk yk nk l:Nat)(all:List dS)(J Jx:List dS->(Nat->Prop)->ak->Prop)(hJ:Lag.Abides J)(V4:Lag.CJ J)
  (hY:Vp aq l RR w0.heap.size all J Jx) (a:dS) (ha:a.Ok) (pre:List dS) (X:Nat->Prop) (W:ak) (hE:GR b bm aH az w0 bk yk nk l X W) (hj:J pre X W) (hp:pre++leaves (iv b ss ms) [] ml.length a <+: all) :
  a_ aq 169 #[aN a.cells,ag af ml.length,pv bk 0,pv yk 0,pv nk 0] W (Qb J Jx X W pre (leaves (iv b ss ms) [] ml.length a)):=by
 have hx:=V4 _ _ _ hj;have b1:Bw W (W.alloc (au a.cells 134)):=cY;have V5:=hE.step (Step.of_below b1);have hB1:=hB.below V5.below;obtain⟨x0,x1,x2,x3,x4,x5,x6,x7,x8,x9,qo,qm,rj,qX,q7⟩:=bU V5.lg;have y0:=aK V5.hyk 0 _ rfl;obtain⟨p,cap,rfl,hlen⟩:=aR hB.rm;have hk:(W.alloc (au a.cells 134)).heap[W.heap.size]?=some (au a.cells 134 (0,0)):=ax W _;have z0:=aK hk 0 _ rfl;have z1:=aK hk 1 _ rfl;have z2:=aK hk 2 _ rfl;have z3:=aK hk 3 _ rfl;have hmk:=NI b hB.ok (ae p ml.length cap) aH az ss hB.lH ms hB.jM a ha _ hB1.rs hB1.rk;have HM:=ai hmk;have HE:=ai V5;have HB:=ai hB1;have HY:=ai hY;have HJ:=ai hJ;clear hmk hE hB V5 hB1 hk hY hJ;generalize hL:ml.length=L at *;clear hL;have hlv:leaves (iv b ss ms) [] L a=if iv b ss ms a then[a] else[]:=rfl
 rw[hlv] at hp ⊢;clear hlv
 have HJ2:Hid (∀W',fX (W.alloc (au a.cells 134)).heap.size (W.alloc (au a.cells 134)) W'->J pre X W'/\Step X X W W'):=ai fun W' hb'=>by
  have o6:Bw W W':=b1.trans (hb'.mono b1.size);exact⟨HJ.out _ _ _ _ hj fun k hk=>o6.block k (hx k hk),Step.of_below o6⟩
 clear hj hx HJ
 by_cases cV:iv b ss ms a=true
 .have HK:=ai (ax W (au a.cells 134));have hmb:xW b (b.cM+a.used) (bM ss) ms=true:=cV;rw[hmb] at HM;rw[if_pos cV] at hp ⊢;have HP:=ai hp;clear hp hmb cV b1;refine callsIn_wide (n:=0).1 (callsIn_of_wp Tryz.func169 rfl trivial ?_ rfl);simp only[Tryz.ntmps169,jG,eE,oD,Db,Da,km,kj,jH,iA,jk,iD]
  gi_wp2_with (first
   |(refine⟨trivial,rfl,?_⟩;gi_at_call 143;rw[callsIn_wide];refine HM.out.mono ?_;clear HM;rintro e W1 ⟨rfl,hb1⟩
     have SS:=HE.out.step (Step.of_below hb1);have u0:=aK SS.hyk 0 _ rfl;have pP:=(hb1.block W.heap.size sM).trans HK.out;have v0:=aK pP 0 _ rfl;have v1:=aK pP 1 _ rfl;have v2:=aK pP 2 _ rfl;have v3:=aK pP 3 _ rfl;have hjs:=HJ2.out W1 hb1;have HS:=ai hjs.2;obtain⟨fn,tmps,assign,body,hy,hR⟩:=HY.out 0 pre a X W1 hjs.1 SS.ge HP.out
     clear SS pP hjs hb1)
   |(refine⟨rfl,?_⟩;refine hR.mono ?_;clear hR;rintro e W2 ⟨X2,hs2,(⟨rfl,YP⟩|⟨rfl,YP⟩)⟩))
  .go_ret
   exact⟨X2,HS.out.trans hs2,cz ⟨rfl,YP⟩⟩
  go_ret
  exact⟨X2,HS.out.trans hs2,.inr ⟨rfl,_,YP⟩⟩
 have HK:=ai (ax W (au a.cells 134));have hmb:xW b (b.cM+a.used) (bM ss) ms=false:=by simpa [iv] using cV
 rw[hmb] at HM;rw[if_neg cV] at hp ⊢;clear hp hmb cV b1 HY;refine callsIn_wide (n:=0).1 (callsIn_of_wp Tryz.func169 rfl trivial ?_ rfl);simp only[Tryz.ntmps169,jG,eE,oD,Db,Da,km,kj,jH,iA,jk,iD]
 gi_wp2_with (first
  |(refine⟨trivial,rfl,?_⟩;gi_at_call 143;rw[callsIn_wide];refine HM.out.mono ?_;clear HM;rintro e W1 ⟨rfl,hb1⟩
    have SS:=HE.out.step (Step.of_below hb1);have u0:=aK SS.hyk 0 _ rfl;have pP:=(hb1.block W.heap.size sM).trans HK.out;have v0:=aK pP 0 _ rfl;have v1:=aK pP 1 _ rfl;have v2:=aK pP 2 _ rfl;have v3:=aK pP 3 _ rfl;have hjs:=HJ2.out W1 hb1;have HS:=ai hjs
    clear SS pP hjs hb1))
 refine⟨fun _ _=>trivial,?_⟩
 gi_wp2
 go_ret
 exact⟨X,HS.out.2,cz ⟨rfl,by rw[Au];exact HS.out.1⟩⟩
def P5{w:ak}{B:Nat}{a:dS}(lU:Nat)(hm:lU<3)(n:Int)(h:w.heap[B]?=some (au a.cells 134 (0,0))):(w.setCell ⟨B,1+lU,none⟩ (ag af n)).heap[B]?=some (au (a.put lU n).cells 134 (0,0)):=by
 obtain⟨hk,h⟩:=ah.1 h
 match lU,hm with
 |0,_=>simp[ku,hk,h,BG,dS.put]
 |1,_=>simp[ku,hk,h,BG,dS.put]
 |2,_=>simp[ku,hk,h,BG,dS.put]
def Ec{lo hi:Int}{k:Nat}(h:lo+k<=hi):k<(eI lo hi).length/\∀h',(eI lo hi)[k]'h'=lo+k:=by
 constructor
 .simp[eI];omega
 intro h';simp[eI]
def H6{α β:Type}(l:List α)(f:α->List β){k:Nat}(h:k<l.length):(l.take (k+1)).flatMap f=(l.take k).flatMap f++f l[k]:=by
 rw[List.take_succ_eq_append_getElem h,List.flatMap_append];simp
def QY(b:BB)(bm aH az:aj)(ml:List Mn)(ss:List Int)(ms:List Mk)(w0:ak)(hB:bW b bm aH az ml ss ms w0)(bk yk nk l:Nat)(all:List dS)(J Jx:List dS->(Nat->Prop)->ak->Prop)(hJ:Lag.Abides J)(V4:Lag.CJ J)
  (fr:List Mn) (m:Mn) (r:List Mn) (Um:ml=fr++m::r)
  (ih:∀(a:dS),a.Ok->∀(pre:List dS) (X:Nat->Prop) (W:ak),GR b bm aH az w0 bk yk nk l X W->J pre X W->pre++leaves (iv b ss ms) r (fr.length+1) a <+: all->
   a_ aq 169 #[aN a.cells,ag af ((fr.length+1:Nat):Int),pv bk 0,pv yk 0,pv nk 0] W (Qb J Jx X W pre (leaves (iv b ss ms) r (fr.length+1) a)))
  (a:dS) (ha:a.Ok) (pre:List dS) (X:Nat->Prop) (W:ak) (hE:GR b bm aH az w0 bk yk nk l X W) (hj:J pre X W) (hp:pre++leaves (iv b ss ms) (m::r) fr.length a <+: all) :
  a_ aq 169 #[aN a.cells,ag af fr.length,pv bk 0,pv yk 0,pv nk 0] W (Qb J Jx X W pre (leaves (iv b ss ms) (m::r) fr.length a)):=by
 have hx:=V4 _ _ _ hj;have hlen:fr.length<ml.length:=by rw[Um];simp
 have NU:fr.length<3:=by have:=hB.eT.len;omega
 have hmk:ml[fr.length]=m:=by simp[Um]
 have SJ:=hB.eT.mem m (by rw[Um];simp)
 obtain⟨g,off,cap,rfl,ajK,hg,hcm⟩:∃g off cap,bm=ae (some ⟨g,off,none⟩) ml.length cap/\(ml.length<=4294967296/\ml.length<=cap)/\g<w0.heap.size/\∀j u,(eA ml)[j]?=some u->w0.cell? ⟨g,off+j,none⟩=some u:=by
  rcases hB.rm with⟨_,h,_⟩|h
  .omega
  exact h
 have hcell:=zn hcm fr.length hlen;rw[hmk] at hcell
 have HC:Hid (∀W',Bw w0 W'->W'.cell? ⟨g,off+fr.length*3+1,none⟩=some (ag af m.lo)/\W'.cell? ⟨g,off+fr.length*3+2,none⟩=some (ag af m.hi)):=
  ai fun W' hb=>⟨(hb.cell (p:=⟨g,_,none⟩) hg).trans hcell.2.1,(hb.cell (p:=⟨g,_,none⟩) hg).trans hcell.2.2⟩
 clear hcell hcm;have hl3:=hB.eT.len;have HB:=ai hB;have HI:=ai ih;have HP:=ai hp;have HX:=ai hx;have HJ:=ai hJ;have hlv:leaves (iv b ss ms) (m::r) fr.length a=(eI m.lo m.hi).flatMap fun n=>leaves (iv b ss ms) r (fr.length+1) (a.put fr.length n):=rfl;have b1:Bw W (W.alloc (au a.cells 134)):=cY;have V5:=hE.step (Step.of_below b1);have hj1:J pre X (W.alloc (au a.cells 134)):=hJ _ _ _ _ hj fun k hk=>b1.block k (hx k hk);obtain⟨x0,x1,x2,x3,x4,x5,x6,x7,x8,x9,qo,qm,rj,qX,q7⟩:=bU V5.lg;obtain⟨c1,c2⟩:=HC.out _ V5.below;have hXa:¬X W.heap.size:=fun h=>absurd (hx _ h) oM;have HE1:=ai V5;have HE:=ai hE;have HJ1:=ai hj1;have HXa:=ai hXa;clear hB ih hp hx hJ hE V5 hj1 hXa hj;clear hmk Um;generalize ml.length=L at *;generalize fr.length=lU at *;generalize iv b ss ms=ok at *;refine callsIn_wide (n:=0).1 (callsIn_of_wp Tryz.func169 rfl trivial ?_ rfl);simp only[Tryz.ntmps169,jG,eE,oD,Db,Da,km,kj,jH,iA,jk,iD];have i1:(lU:Int)<(L:Int):=oM;have i2:(0:Int)<=(lU:Int):=oM;have i3:((lU:Int)==(L:Int))=false:=sO
 gi_wp2
 have w1:IntKind.i64.wrap (lU+1)=((lU+1:Nat):Int):=by rw[fC _ oM oM];omega
 gi_loopw [8] (fun v wr=>∃(k:Nat) (X1:Nat->Prop),v=ag af (m.lo+k)/\m.lo+k<=m.hi+1/\Step X X1 W wr/\¬X1 W.heap.size/\J (pre++((eI m.lo m.hi).take k).flatMap fun n=>leaves ok r (lU+1) (a.put lU n)) X1 wr/\
   ∃a':dS,(∀n,a'.put lU n=a.put lU n)/\wr.heap[W.heap.size]?=some (au a'.cells 134 (0,0))) (fun v _=>(m.hi+1-intOf v).toNat)
 case atStart=>exact⟨0,X,sM,oM,Step.of_below b1,HXa.out,by simpa using HJ1.out,a,fun _=>rfl,ax W _⟩
 case round=>
  obtain⟨k,X1,rfl,hk,hst,xm,hjk,a',ha',hab⟩:=hrel;have UF:=HE.out.step hst;have Pa:Step X X1 W (wr.setCell ⟨W.heap.size,1+lU,none⟩ (ag af (m.lo+k))):=IC hst _ (aJ _);have SS:=HE.out.step Pa;have LM:=P5 lU NU (m.lo+k) hab;have hcc:a'.put lU (m.lo+k)=a.put lU (m.lo+k):=ha' _;rw[hcc] at LM
  have YP:J (pre++((eI m.lo m.hi).take k).flatMap fun n=>leaves ok r (lU+1) (a.put lU n)) X1 (wr.setCell ⟨W.heap.size,1+lU,none⟩ (ag af (m.lo+k))):=
   HJ.out _ _ _ _ hjk fun i hi=>bp _ _ _ _ (by rintro rfl;exact xm hi)
  have hx1:=V4 _ _ _ hjk;clear x0 x1 x2 x3 x4 x5 x6 x7 x8 x9 qo qm rj qX q7 c1 c2;obtain⟨x0,x1,x2,x3,x4,x5,x6,x7,x8,x9,qo,qm,rj,qX,q7⟩:=bU UF.lg;obtain⟨c1,c2⟩:=HC.out _ UF.below;have v0:=aK hab 0 _ rfl;have v1:=aK hab 1 _ rfl;have v2:=aK hab 2 _ rfl;have v3:=aK hab 3 _ rfl
  have vm:∃u,wr.cell? ⟨W.heap.size,1+lU,none⟩=some u:=by
   match lU,NU with
   |0,_=>exact⟨_,v1⟩
   |1,_=>exact⟨_,v2⟩
   |2,_=>exact⟨_,v3⟩
  obtain⟨um,vm⟩:=vm;have vf:=cQ hab (1+lU);have z0:=aK LM 0 _ rfl;have z1:=aK LM 1 _ rfl;have z2:=aK LM 2 _ rfl;have z3:=aK LM 3 _ rfl;have n0:=aK SS.hnk 0 _ rfl;have hap:=dS.Nr ha lU (n:=m.lo+k) oM;have w2:IntKind.i64.wrap (m.lo+(k:Int)+1)=m.lo+((k+1:Nat):Int):=by rw[fC _ oM oM];omega
  by_cases hlt:m.lo+(k:Int)<=m.hi
  .obtain⟨wD,YO⟩:=Ec hlt;have Rq:=H6 (eI m.lo m.hi) (fun n=>leaves ok r (lU+1) (a.put lU n)) wD;rw[YO wD] at Rq
   have hih:=HI.out (a.put lU (m.lo+k)) (hap oM) _ X1 _ SS YP (by
    rw[List.append_assoc,<-Rq];have:=HP.out;rw[hlv] at this;refine List.IsPrefix.trans ?_ this;rw[List.prefix_append_right_inj];refine⟨((eI m.lo m.hi).drop (k+1)).flatMap fun n=>leaves ok r (lU+1) (a.put lU n),?_⟩
    rw[<-List.flatMap_append,List.take_append_drop])
   have HPP:Hid (∀n,(a.put lU (m.lo+k)).put lU n=a.put lU n):=ai fun n=>dS.Wy _ _ _ _;have HIH:=ai hih;have HS2:=ai Pa;have HF:=ai Rq;have Kg:=ai hlv;have HA:=ai LM;have HX1:=ai hx1;have HN:=ai SS;have HXX:=ai xm;clear hih Pa Rq YO YP SS UF hab LM hst hjk xm ha' hcc hlv hx1 hap;generalize a.put lU (m.lo+k)=a2 at *
   gi_wp2_with (first
    |(refine⟨trivial,rfl,?_⟩;gi_at_call 169;rw[callsIn_wide];refine HIH.out.mono ?_;clear HIH;rintro e W3 ⟨X3,hs3,(⟨rfl,hj3⟩|⟨rfl,q,hj3⟩)⟩))
   .go_roundw
    case rel=>
     have ad3:W.heap.size<(wr.setCell ⟨W.heap.size,1+lU,none⟩ (ag af (m.lo+k))).heap.size:=(ah.1 HA.out).1;refine⟨k+1,X3,sM,oM,HS2.out.trans hs3,fun h=>HXX.out (hs3.old _ ad3 h),?_,a2,HPP.out,(hs3.same _ ad3 HXX.out).trans HA.out⟩;rw[HF.out,<-List.append_assoc];exact hj3
    case measure=>simp[intOf];omega
   go_ret
   exact⟨X3,HS2.out.trans hs3,.inr ⟨rfl,q,hj3⟩⟩
  have hmh:m.hi=m.lo+k-1:=oM;have hall:(eI m.lo m.hi).take k=eI m.lo m.hi:=cU (by simp[eI];omega);rw[hall] at hjk;have HJK:=ai hjk;have HS:=ai hst;have Kg:=ai hlv;clear Pa YP SS UF hab LM hst hjk xm ha' hcc hlv hx1 hap hall
  gi_wp2
  go_ret
  rw[Kg.out];exact⟨X1,HS.out,cz ⟨rfl,HJK.out⟩⟩
def TM(b:BB)(bm aH az:aj)(ml:List Mn)(ss:List Int)(ms:List Mk)(w0:ak)(hB:bW b bm aH az ml ss ms w0)(bk yk nk l:Nat)(all:List dS)(J Jx:List dS->(Nat->Prop)->ak->Prop)(hJ:Lag.Abides J)(V4:Lag.CJ J)
  (hY:Vp aq l RR w0.heap.size all J Jx):∀(r fr:List Mn),ml=fr++r->∀(a:dS),a.Ok->∀(pre:List dS) (X:Nat->Prop) (W:ak),GR b bm aH az w0 bk yk nk l X W->J pre X W->pre++leaves (iv b ss ms) r fr.length a <+: all->
   a_ aq 169 #[aN a.cells,ag af fr.length,pv bk 0,pv yk 0,pv nk 0] W (Qb J Jx X W pre (leaves (iv b ss ms) r fr.length a)):=by
 intro r
 induction r with
 |nil=>
  rintro fr rfl a ha pre X W hE hj hp;have e:fr++([]:List Mn)=fr:=Au _;have:=QZ b bm aH az (fr++[]) ss ms w0 hB bk yk nk l all J Jx hJ V4 hY a ha pre X W hE hj (by rw[e];exact hp);rw[e] at this;exact this
 |cons m r ih=>
  intro fr Um a ha pre X W hE hj hp;refine QY b bm aH az ml ss ms w0 hB bk yk nk l all J Jx hJ V4 fr m r Um (fun a ha pre X W hE hj hp=>?_) a ha pre X W hE hj hp;have:=ih (fr++[m]) (by rw[Um];simp) a ha pre X W hE hj (by simpa using hp);simpa using this
def oG(W:ak)(A B C:Array aj)(tA tB tC:aZ) :
  (((W.alloc (au A tA)).alloc (au B tB)).alloc (au C tC)).heap[W.heap.size]?=some (au A tA (0,0))/\
  (((W.alloc (au A tA)).alloc (au B tB)).alloc (au C tC)).heap[W.heap.size+1]?=some (au B tB (0,0))/\
  (((W.alloc (au A tA)).alloc (au B tB)).alloc (au C tC)).heap[W.heap.size+2]?=some (au C tC (0,0)):=by
 refine⟨?_,?_,?_⟩
 .exact(aW _ _ _ sO).trans ((aW _ _ _ sM).trans (ax W _))
 .refine(aW _ _ _ sM).trans ?_;have:=ax (W.alloc (au A tA)) (au B tB);rwa [dQ] at this
 have:=ax ((W.alloc (au A tA)).alloc (au B tB)) (au C tC);rwa [dQ,dQ] at this
def Ia(b:BB)(bm aH az:aj)(ml:List Mn)(ss:List Int)(ms:List Mk)(w0:ak)(hB:bW b bm aH az ml ss ms w0):aby aq 117 #[aN (b.cells bm aH az)] RR (aT b ml ss ms) w0:=by
 intro l J Jx X W hb hX hJ hJx V4 ahF hY h0;show a_ aq 117 #[aN (b.cells bm aH az),.func (.yield l) #[] #[]] W _;have cV:=hB.ok;have SN:=cV.leak;have XH:=oG W (b.cells bm aH az) #[.func (.yield l) #[] #[]] #[.func (.func 169) #[] #[pv W.heap.size 0,pv (W.heap.size+1) 0,pv (W.heap.size+1+1) 0]] 119 159 181;have hb3:∀A B C,Bw W (((W.alloc A).alloc B).alloc C):=fun A B C=>(((ay _ W).alloc (aJ _) _).alloc sM _).alloc sO _
 have hE0:GR b bm aH az w0 W.heap.size (W.heap.size+1) (W.heap.size+1+1) l X (((W.alloc (au (b.cells bm aH az) 119)).alloc (au #[.func (.yield l) #[] #[]] 159)).alloc (au #[.func (.func 169) #[] #[pv W.heap.size 0,pv (W.heap.size+1) 0,pv (W.heap.size+1+1) 0]] 181)):=
  ⟨hb.trans ((hb3 _ _ _).mono hb.size),XH.1,XH.2.1,XH.2.2,fun h=>by have:=(hX _ h).2;omega,fun h=>by have:=(hX _ h).2;omega,fun h=>by have:=(hX _ h).2;omega,fun k h=>(hX k h).1⟩
 have hS0:=Step.of_below (X:=X) (hb3 (au (b.cells bm aH az) 119) (au #[.func (.yield l) #[] #[]] 159) (au #[.func (.func 169) #[] #[pv W.heap.size 0,pv (W.heap.size+1) 0,pv (W.heap.size+1+1) 0]] 181));have hJ0:=hJ _ _ _ (((W.alloc (au (b.cells bm aH az) 119)).alloc (au #[.func (.yield l) #[] #[]] 159)).alloc (au #[.func (.func 169) #[] #[pv W.heap.size 0,pv (W.heap.size+1) 0,pv (W.heap.size+1+1) 0]] 181)) h0 fun k hk=>(hb3 _ _ _).block k (hX k hk).2
 have hN:=fun(X1:Nat->Prop) (W1:ak) (n:Int) (h1:0<=n) (h2:n<=99) (pre:List dS) (hE:GR b bm aH az w0 W.heap.size (W.heap.size+1) (W.heap.size+1+1) l X1 W1) (hj:J pre X1 W1) (hp:pre++leaves (iv b ss ms) ml 0 ⟨n,0,0,0⟩ <+: aT b ml ss ms)=>
  TM b bm aH az ml ss ms w0 hB W.heap.size (W.heap.size+1) (W.heap.size+1+1) l (aT b ml ss ms) J Jx hJ V4 hY ml [] rfl ⟨n,0,0,0⟩ ⟨⟨h1,by show n<=400;omega⟩,sM,sM,sM⟩ pre X1 W1 hE hj hp
 have HN:=ai hN;have HE0:=ai hE0;have HS0:=ai hS0;have HJ0:=ai hJ0;clear XH hb3 hE0 hS0 hJ0 hN hY hJ hJx V4 ahF h0 hX hb hB;generalize uO:iv b ss ms=ok at *;have hall:aT b ml ss ms=(eI b.ll b.lm).flatMap fun n=>leaves ok ml 0 ⟨n,0,0,0⟩:=by rw[<-uO];rfl
 rw[hall] at HN ⊢;clear hall uO
 go_enter Tryz.func117,Tryz.ntmps117
 go_wp2
 go_loopw [5] (fun v wr=>∃(k:Nat) (X1:Nat->Prop),v=ag af (b.ll+k)/\b.ll+k<=b.lm+1/\Step X X1 W wr/\GR b bm aH az w0 W.heap.size (W.heap.size+1) (W.heap.size+1+1) l X1 wr/\J (((eI b.ll b.lm).take k).flatMap fun n=>leaves ok ml 0 ⟨n,0,0,0⟩) X1 wr) (fun v _=>(b.lm+1-intOf v).toNat)
 case atStart=>exact⟨0,X,sM,oM,HS0.out,HE0.out,by simpa using HJ0.out⟩
 case round=>
  obtain⟨k,X1,rfl,hk,hst,UF,hjk⟩:=hrel;obtain⟨x0,x1,x2,x3,x4,x5,x6,x7,x8,x9,qo,qm,rj,qX,q7⟩:=bU UF.lg;have n0:=aK UF.hnk 0 _ rfl;have w2:IntKind.i64.wrap (b.ll+(k:Int)+1)=b.ll+((k+1:Nat):Int):=by rw[fC _ oM oM];omega
  by_cases hlt:b.ll+(k:Int)<=b.lm
  .obtain⟨wD,YO⟩:=Ec hlt;have Rq:=H6 (eI b.ll b.lm) (fun n=>leaves ok ml 0 ⟨n,0,0,0⟩) wD;rw[YO wD] at Rq
   have hih:=HN.out X1 wr (b.ll+k) oM oM _ UF hjk (by
    rw[<-Rq];refine⟨((eI b.ll b.lm).drop (k+1)).flatMap fun n=>leaves ok ml 0 ⟨n,0,0,0⟩,?_⟩
    rw[<-List.flatMap_append,List.take_append_drop])
   have HIH:=ai hih;have HS2:=ai hst;have HF:=ai Rq;have HEr:=ai UF;clear hih Rq YO UF hst hjk
   go_wp2_with (first
    |(go_at_call 169;refine HIH.out.mono ?_;clear HIH;rintro e W3 ⟨X3,hs3,(⟨rfl,hj3⟩|⟨rfl,q,hj3⟩)⟩))
   .go_roundw
    case rel=>
     refine⟨k+1,X3,sM,oM,HS2.out.trans hs3,HEr.out.step hs3,?_⟩;rw[HF.out];exact hj3
    case measure=>simp[intOf];omega
   (try simp only[Exit.inBlock,Exit.then]);refine bodyPost_ret (results_none rfl _ _ _) rfl ?_
   exact⟨⟨_,rfl⟩,X3,HS2.out.trans hs3,.inr ⟨q,hj3⟩⟩
  have hall:(eI b.ll b.lm).take k=eI b.ll b.lm:=cU (by simp[eI];omega);rw[hall] at hjk;have HJK:=ai hjk;have HS:=ai hst;clear UF hst hjk hall;go_wp2
  go_end0
  exact⟨⟨_,rfl⟩,X1,HS.out,cz HJK.out⟩
end Go.Proofs.YtffladgmkiimjaaGreatDoor
namespace Go.Lag
open Go Go.RowKit
def Whole(A:aj->Prop)(e:aZ)(w:ak)(v:aj):Prop:=∀g,v.ownBlock=some g->∃cur,w.heap[g]?=some (.cells cur e (0,0))/\∀u∈cur,A u
def Gi{A:aj->Prop}{zs:Array aj}(h:∀u∈zs,A u)(n:Nat):∀u∈fO zs n,A u:=by
 intro u hu;unfold fO at hu;rw[Array.mem_map] at hu;obtain⟨i,hi,rfl⟩:=hu;have hlt:i<n*zs.size:=by simpa using hi
 have jS:0<zs.size:=by
  rcases Nat.eq_zero_or_pos zs.size with h0|h0
  .rw[h0] at hlt;simp at hlt
  exact h0
 have hk:=Nat.mod_lt i jS;rw[getElem!_pos zs _ hk];exact h _ (Array.getElem_mem hk)
def JZ{P:aL}(w:ak)(A:aj->Prop)(base:Nat)(t ty e:aZ)(i:TypeInfo)(z:aj)(size sA:Nat)(ht:P.underlying t=some (.slice e))(hi:P.info? e=some i)(hz:i.zero=some z)
  (hsize:i.size=size) (hby:i.bytes=sA) (hzs:z.cells.size=size) (hsz:0<size)
  (v:aj) (n:Nat) (xs:List aj) (hown:w.ownsRow base e size v n xs)
  (a:Addr) (m c:Nat) (news:List aj) (hl:news.length=m*size) (hnews:∀j u,news[j]?=some u->w.cell? (a.add j)=some u) (h1:∀u∈news,u.oneCell'=true)
  (h63:n+m<=maxLen) (hbytes:(n+m)*sA<=140737488355328) (hm:0<m)
  (hAz:∀u∈z.cells,A u) (hAn:∀u∈news,A u) (hAv:Whole A e w v) {v':aj} {w':ak}
  (hr:(Builtin.append_ #[t,t] ty #[v,.slice (some a) m c]).run P w=.ok v' w'):Whole A e w' v':=by
 subst hsize;subst hby;have Z7:n+m<=9223372036854775807:=by simp only[maxLen] at h63;omega
 have hAx:∀u∈xs,A u:=by
  intro u hu;rcases hown.2 with⟨rfl,rfl⟩|⟨g,cap,cur,rfl,_,hg,_,_,_,EB⟩
  .have hx:xs=[]:=aX (by simpa using hown.1);rw[hx] at hu;cases hu
  obtain⟨cur',FY,hA⟩:=hAv g rfl;rw[hg] at FY;obtain rfl:cur=cur':=by simpa using FY
  rw[<-EB] at hu;exact hA u (by simpa using fH hu)
 have fin:∀(l:List aj) (k:Nat),(∀u∈l,A u)->∀u∈l.toArray++fO z.cells k,A u:=by
  intro l k hl u hu;rw[Array.mem_append] at hu;rcases hu with h|h
  .exact hl u (by simpa using h)
  exact Gi hAz k u h
 rcases hown.2 with⟨rfl,rfl⟩|⟨g,cap,cur,rfl,hbg,hg,uP,hcm,hcs,EB⟩
 .have hr2:=run_append_nil (P:=P) w t ty e i z ht hi hz a m c news hl hnews hm (by omega) (by have hb:=hbytes;simp only[cO] at hb;omega);rw[hr2] at hr;cases hr;intro g hg;obtain rfl:w.heap.size=g:=by simpa [ji] using hg
  exact⟨_,heap_alloc_new w.drew _,fin _ _ hAn⟩
 by_cases hroom:n+m<=cap
 .have NZ:n*i.size+news.length<=cur.size:=by rw[hl,hcs,<-Nat.add_mul];exact Nat.mul_le_mul_right _ hroom
  have hr2:=run_append_room (P:=P) w t ty e i ht hi g n cap cur hg a m c news hl hnews h1 hroom NZ;rw[hr2] at hr;cases hr;intro g' FY;obtain rfl:g=g':=by simpa [ji] using FY
  refine⟨_,setRow_heap w g cur _ e _ hg,?_⟩;obtain⟨cur',hg2,hA⟩:=hAv g rfl;rw[hg] at hg2;obtain rfl:cur=cur':=by simpa using hg2
  intro u hu;simp only[List.mem_toArray,bJ] at hu;rcases hu with(h|h)|h
  .exact hA u (by simpa using fH h)
  .exact hAn u h
  exact hA u (by simpa using List.mem_of_mem_drop h)
 have holds:∀j u,xs[j]?=some u->w.cell? ((⟨g,0,none⟩:Addr).add j)=some u:=hown.cells (g:=g) rfl;have hr2:=run_append_grow (P:=P) w t ty e i z ht hi hz ⟨g,0,none⟩ n cap xs hown.1 holds a m c news hl hnews (by omega) (by omega) (growslice_fits (by omega) hbytes);rw[hr2] at hr;cases hr;intro g' FY;obtain rfl:w.heap.size=g':=by simpa [ji] using FY
 refine⟨_,heap_alloc_new w.drew _,?_⟩;rw[show xs.toArray++news.toArray=(xs++news).toArray by simp];refine fin _ _ fun u hu=>?_;rw[bJ] at hu;exact hu.elim (hAx u) (hAn u)
section
variable{F:Fence}{nF:Nat}{P:aL}(w:ak)
theorem uM{aM:Array cI}{rest:List cI}{o:cI}{a:k9}{Q:Exit->k9->ak->Prop}(hgd:o.guard=none)(s x:bI)(t:aZ)
  (ho:o.op=.call { callee:=.builtin .append,args:=#[s,x],argTypes:=#[t,t] })
  (A:aj->Prop) (base:Nat) (e:aZ) (i:TypeInfo) (z:aj) (size sA:Nat) (ht:P.underlying t=some (.slice e)) (hi:P.info? e=some i) (hz:i.zero=some z)
  (hsize:i.size=size) (hby:i.bytes=sA) (hzs:z.cells.size=size) (hsz:0<size)
  (v:aj) (n:Nat) (xs:List aj) (hs:a.eval s=v) (hown:w.ownsRow base e size v n xs)
  (ad:Addr) (m c:Nat) (news:List aj) (hx:a.eval x=.slice (some ad) m c) (hl:news.length=m*size) (hnews:∀j u,news[j]?=some u->w.cell? (ad.add j)=some u) (h1:∀u∈news,u.oneCell'=true)
  (h63:n+m<=maxLen) (hbytes:(n+m)*sA<=140737488355328) (hbase:base<=w.heap.size) (hm:0<m) (hAz:∀u∈z.cells,A u) (hAn:∀u∈news,A u) (hAv:Whole A e w v)
  (h:∀v' w',w'.ownsRow base e size v' (n+m) (xs++news)->w.grownBy w' v.ownBlock->Whole A e w' v'->(v'.ownBlock=v.ownBlock\/v'.ownBlock=some w.heap.size)->wpListIn F nF P aM Q rest (a.put o.dst v') w') :
  wpListIn F nF P aM Q (o::rest) a w:=by
 refine wpListIn_plain hgd fun K hK=>?_;obtain⟨v',w',hr,h2,h3,h4,h5⟩:=run_append_own_at (P:=P) w base t o.type e i z size sA ht hi hz hsize hby hzs hsz v n xs hown ad m c news hl hnews h1 h63 hbytes hbase;have h6:=JZ w A base t o.type e i z size sA ht hi hz hsize hby hzs hsz v n xs hown ad m c news hl hnews h1 h63 hbytes hm hAz hAn hAv hr;unfold Oper.wpIn;refine⟨by simp[Oper.about,ho,resolve,Target.leads,Sem.run_pure],?_⟩;rw[Oper.semAt_plain F _ _ (by rw[ho];intro c hc';cases hc')];simp[cu,ho,resolve,invoke,builtin,hs,hx,hr,Result.andThen];exact hK _ _ (h v' w' h2 h3 h6 h5)
end
end Go.Lag
namespace Go.Proofs.YtffladgmkiimjaaGreatDoor
open Go.RowKit Go.Lag
attribute [local go_sem] Oper.semAt_some
def PD:(Tryz.prog.info? 134).map (fun i=>(i.zero,i.size,i.bytes))=some (some (.agg #[.int .i64 0,.int .i64 0,.int .i64 0,.int .i64 0]),4,32):=kQ
def Vw(u:aj):Prop:=∃n,u=.int .i64 n
def ie(W:ak)(base:Nat)(v:aj)(l:List dS):Prop:=W.ownsRow base 134 4 v l.length (rowOf l)/\Whole Vw 134 W v
def T7(x:dS):∀u∈x.cells.toList,Vw u:=by
 intro u hu;simp at hu;rcases hu with rfl|rfl|rfl|rfl<;>exact⟨_,rfl⟩
def abP(n0 B:Nat)(pre:List dS)(X:Nat->Prop)(W:ak):Prop:=
 ∃v,Boxed W B 120 v/\ie W n0 v pre/\∀k,X k↔(k=B\/some k=v.ownBlock)
def fV{W W':ak}{base:Nat}{e:aZ}{size:Nat}{v:aj}{k:Nat}{xs:List aj}(h:W.ownsRow base e size v k xs)(hs:∀g,v.ownBlock=some g->W'.heap[g]?=W.heap[g]?):W'.ownsRow base e size v k xs:=by
 refine⟨h.1,?_⟩;rcases h.2 with hn|⟨g,cap,cur,rfl,hb,EM,rest⟩
 .exact .inl hn
 exact .inr ⟨g,cap,cur,rfl,hb,(hs g rfl).trans EM,rest⟩
def ie.at_{W W':ak}{base:Nat}{v:aj}{l:List dS}(h:ie W base v l)(hs:∀g,v.ownBlock=some g->W'.heap[g]?=W.heap[g]?):ie W' base v l:=
 ⟨fV h.1 hs,fun g hg=>by obtain⟨cur,h1,h2⟩:=h.2 g hg;exact⟨cur,(hs g hg).trans h1,h2⟩⟩
def ie.base{W:ak}{base base':Nat}{v:aj}{l:List dS}(h:ie W base v l)(hb:base'<=base):ie W base' v l:=by
 refine⟨⟨h.1.1,?_⟩,h.2⟩;rcases h.1.2 with hn|⟨g,cap,cur,rfl,hb',rest⟩
 .exact .inl hn
 exact .inr ⟨g,cap,cur,rfl,aG hb hb',rest⟩
def ie.reads{W:ak}{base:Nat}{v:aj}{l:List dS}(h:ie W base v l)(hl:l.length<=4294967296):Reads W v l.length (rowOf l):=Reads.jL h.1 hl (by rw[h.1.1])
def MB(n0 B:Nat):Lag.Abides (abP n0 B):=by
 rintro pre X W W' ⟨v,h1,h2,h3⟩ hs;exact⟨v,(hs B ((h3 B).2 (.inl rfl))).trans h1,h2.at_ fun g hg=>hs g ((h3 g).2 (.inr hg.symm)),h3⟩
def FL(n0 B:Nat):Lag.CJ (abP n0 B):=by
 rintro pre X W ⟨v,h1,h2,h3⟩ k hk;rcases(h3 k).1 hk with rfl|h
 .exact h1.lt
 exact(h2.1.lt k h.symm).2
def afa(n0 B:Nat)(bk:aj)(pre:List dS)(x:dS)(a:k9)(X:Nat->Prop)(W:ak):Prop:=
 ∃k v,a=⟨#[.slice none 0 0,.func (.func 117) #[bk] #[],pv B 0,ar,.slice none 0 0,pv k 0,.func (.func 117) #[bk] #[],.agg x.cells,ar,ar,ar,ar,ar],[]⟩/\
  Boxed W B 120 v/\ie W n0 v pre/\W.heap[k]?=some (.cells x.cells 134 (0,0))/\(∀j,X j↔(j=B\/j=k\/some j=v.ownBlock))
def MC(n0 B:Nat)(bk:aj)(pre:List dS)(x:dS):Lag.Abides (afa n0 B bk pre x):=by
 rintro a X W W' ⟨k,v,h0,h1,h2,h3,h4⟩ hs;exact⟨k,v,h0,(hs B ((h4 B).2 (.inl rfl))).trans h1,h2.at_ fun g hg=>hs g ((h4 g).2 (.inr (.inr hg.symm))),(hs k ((h4 k).2 (.inr (.inl rfl)))).trans h3,h4⟩
def uj{n D:Nat}(W:ak)(o:Obj)(h:n<=D):fX n W (W.putObj D o):=⟨rfl,rfl,rfl,sM,fun k hk=>dD oM⟩
def D7(l:List dS)(x:dS):rowOf (l++[x])=rowOf l++x.cells.toList:=by simp[rowOf]
def GI(bk:aj)(all:List dS)(hall:all.length<=1000)(w0:ak)(hseq:aby aq 117 #[bk] RR all w0)(w:ak)(hb:Bw w0 w) :
  a_ aq 168 #[.slice none 0 0,.func (.func 117) #[bk] #[]] w fun e w'=>∃v,e=.returned v/\ie w' w.heap.size v all/\Bw w w':=by
 obtain⟨i0,hi,hz0,hz1,hz2⟩:=info_parts PD;have HSQ:=ai hseq;clear hseq;refine callsIn_wide (n:=0).1 (callsIn_of_wp_marks Tryz.func168 rfl trivial ?_ rfl);simp only[Tryz.ntmps168,jG,eE,oD,Db,Da,km,kj,jH,iA,jk,iD]
 gi_wp2
 have hb1:Bw w (w.alloc (.cells #[.slice none 0 0] 120)):=cY;have hs0:=hb.size
 refine sD (gf:=117) (la:=#[bk]) rfl (enters_of Tryz.func117 kQ rfl) (encs:=RR) (all:=all) (w0:=w0) HSQ.out (hb.trans (hb1.mono hs0)) (fun _=>rfl) (abP w.heap.size w.heap.size) (fun _ _ _ _=>False) (MB _ _) (fun _ _ _ _ _ h _=>h) (FL _ _) (fun _ _ _ _ h=>h.elim)
  (fun k=>k=w.heap.size) (by rintro k rfl;exact⟨hs0,sM⟩) ⟨_,Boxed.new _ _ _,⟨World.ownsRow_nil _ _ _ _,fun g hg=>by simp[ji] at hg⟩,fun k=>by simp[ji]⟩ (afa w.heap.size w.heap.size bk) (MC _ _ _) ?rassign ?rbody ?rdone ?rstop
 case rassign=>
  intro l m pre x X1 W K hI hge hpre hK;obtain⟨v,h1,h2,h3⟩:=hI;have hX1:=FL _ _ _ _ _ ⟨v,h1,h2,h3⟩;have HK:=ai hK;clear hK
  gi_wp2
  refine HK.out _ (fun j=>X1 j\/j=W.heap.size) _ ⟨rfl,rfl,rfl,sM,?_,?_⟩ ⟨W.heap.size,v,rfl,h1.alloc _,h2.at_ (fun g hg=>aW _ _ _ (h2.1.lt g hg).2),ax _ _,fun j=>?_⟩
  .rintro j hj (h|rfl)
   .exact h
   omega
  .intro j hj _;exact aW _ _ _ hj
  show(X1 j\/j=W.heap.size)↔_;rw[h3];constructor
  .rintro((h|h)|h)
   .exact .inl h
   .exact .inr (.inr h)
   exact .inr (.inl h)
  rintro(h|h|h)
  .exact .inl (.inl h)
  .exact .inr h
  exact .inl (.inr h)
 case rbody=>
  rintro l m pre x a' X1 W ⟨k,v,rfl,h1,h2,h3,h4⟩ hge hpre;have hlen:pre.length+1<=1000:=by have:=hpre.length_le;simp at this;omega
  have c0:=aK h3 0 _ rfl;have c1:=aK h3 1 _ rfl;have c2:=aK h3 2 _ rfl;have c3:=aK h3 3 _ rfl;have b0:=h1.cell;have hw1:w.heap.size<=W.heap.size:=Nat.le_of_lt h1.lt
  have HQ2:Hid (∀u∈(Value.agg #[.int .i64 0,.int .i64 0,.int .i64 0,.int .i64 0]).cells,Vw u):=ai fun u hu=>by
   have h:u∈#[aD .i64 0,.int .i64 0,.int .i64 0,.int .i64 0]:=hu;simp at h;exact⟨0,h⟩
  have HQ3:Hid (Whole Vw 134 (W.alloc (.cells x.cells 134)) v):=ai fun g hg=>by
   obtain⟨cur,q1,q2⟩:=h2.2 g hg;exact⟨cur,(aW _ _ _ (h2.1.lt g hg).2).trans q1,q2⟩
  have Vz:Hid (∀(j:Nat) (u:aj),x.cells.toList[j]?=some u->(W.alloc (.cells x.cells 134)).cell? ((⟨W.heap.size,0,none⟩:Addr).add j)=some u):=ai fun j u hj=>by
   have:=ax W (.cells x.cells 134);have h5:=aK this j u (by simpa using hj);have e:(⟨W.heap.size,0,none⟩:Addr).add j=⟨W.heap.size,j,none⟩:=by cases j<;>simp[Addr.add]
   rw[e];exact h5
  gi_wp2_with (first
   |(gi_at_builtin;refine uM _ rfl _ _ 120 rfl Vw w.heap.size 134 i0 (.agg #[.int .i64 0,.int .i64 0,.int .i64 0,.int .i64 0]) 4 32 Tryz.underlying120 hi hz0 hz1 hz2 rfl dC _ _ _ rfl (h2.1.alloc _) ⟨W.heap.size,0,none⟩ 1 1 x.cells.toList rfl rfl Vz.out (by simp[bK]) (by unfold maxLen;omega) oM sO dC HQ2.out (T7 x) HQ3.out ?_
     intro v' w1 hown' hgrow hwh hat;obtain⟨p1,p2,p3,p4,p5⟩:=Boxed.appended h1 dC h2.1 hw1 (aJ _) hown' hgrow;obtain⟨g',cap',rfl⟩:=ownsRow_succ hown';have f1:=p1.cell;have f2:=p1.frozen;have HO:=ai (And.intro p2 (And.intro p3 (And.intro hgrow (And.intro hat hwh))));have adw:=p1.not_row dC hown';have HPN:=ai adw
     clear p2 p3 p4 p5 hown' hgrow hwh hat adw))
  obtain⟨p2,p3,hgrow,hat,hwh⟩:=HO.out;refine⟨fun j=>j=w.heap.size\/some j=ji (.slice (some ⟨g',0,none⟩) (pre.length+1) cap'),⟨hgrow.os,hgrow.tape,hgrow.output,by have:=hgrow.size;simp at this ⊢;omega,?_,?_⟩,_,p2,?_,fun j=>Iff.rfl⟩
  .rintro j hj (rfl|h)
   .exact(h4 _).2 (.inl rfl)
   rcases hat with e|e
   .rw[e] at h;exact(h4 _).2 (.inr (.inr h))
   rw[e] at h;simp at h;omega
  .intro j hj hx;have hx2:=fun h=>hx ((h4 j).2 h);refine(bp _ _ _ _ (fun e=>hx2 (.inl e))).trans ((hgrow.block j sO (fun e=>hx2 (.inr (.inr e)))).trans (aW _ _ _ hj))
  refine⟨by rw[D7,mP];exact p3,fun g hg=>?_⟩;obtain⟨cur,q1,q2⟩:=hwh g hg;exact⟨cur,(bp _ _ _ _ (fun e=>HPN.out ((congrArg some (show w.heap.size=g from e.symm)).trans hg.symm))).trans q1,q2⟩
 case rdone=>
  rintro D X2 W hD hXD hst ⟨v,h1,h2,h3⟩ hK;have b0:=h1.cell;have r5:Bw w W:=hb1.trans (hst.below sM (by rintro k hk rfl;omega));have HB:=ai r5;have HO:=ai h2;have HK:=ai hK;clear r5 h2 h3 hst
  have Ri:(∃n cap,v=.slice none n cap)\/∃g n cap,v=.slice (some g) n cap:=by
   rcases HO.out.1.2 with⟨rfl,_⟩|⟨g,cap,cur,rfl,_⟩
   .exact .inl ⟨_,_,rfl⟩
   exact .inr ⟨_,_,_,rfl⟩
  rcases Ri with⟨n,cap,rfl⟩|⟨g,n,cap,rfl⟩
  all_goals
   gi_wp2
   refine⟨sM,.inl ⟨_,_,rfl,run_takeDeferred HK.out,?_⟩⟩;exact⟨_,results_tmp rfl _ _ _,_,rfl,HO.out.at_ (fun g hg=>dD (fun e=>by obtain⟨cur,q1,_⟩:=HO.out.2 g hg;have hk:=HK.out;rw[<-e,q1] at hk;cases hk)),HB.out.trans (uj _ _ (by simp at hD;omega))⟩
 case rstop=>
  rintro D c pre X2 W _ _ _ h;exact h.elim
def Eb(lo hi:Int):(eI lo hi).length=(hi+1-lo).toNat:=by simp[eI]
def E4{α β:Type}(f:α->List β)(n:Nat):∀(l:List α),(∀x∈l,(f x).length<=n)->(l.flatMap f).length<=l.length*n
 |[],_=>by simp
 |x::l,h=>by
  have h1:=h x sM;have h2:=E4 f n l fun y hy=>h y (by simp[hy]);simp only[List.flatMap_cons,mP,eE,Nat.add_mul];omega
def Ez(ok:dS->Bool):∀(r:List Mn) (lU:Nat) (a:dS),(∀m∈r,m.hi-m.lo<3)->(leaves ok r lU a).length<=3 ^ r.length
 |[],lU,a,_=>by simp only[leaves];split<;>simp
 |m::r,lU,a,h=>by
  have h1:=E4 (fun n=>leaves ok r (lU+1) (a.put lU n)) (3 ^ r.length) (eI m.lo m.hi) fun n _=>Ez ok r (lU+1) _ fun m' hm=>h m' (by simp[hm]);have h2:=Eb m.lo m.hi;have h3:=h m sM;have h4:(eI m.lo m.hi).length<=3:=oM;show((eI m.lo m.hi).flatMap _).length<=_;refine aG h1 ?_;rw[eE,Nat.pow_succ,Nat.mul_comm];exact Nat.mul_le_mul_left _ h4
def ic{b:BB}{ml:List Mn}(ss:List Int)(ms:List Mk)(hb:b.Ok)(hm:uJ ml):(aT b ml ss ms).length<=81:=by
 have h1:=E4 (fun n=>leaves (iv b ss ms) ml 0 ⟨n,0,0,0⟩) 27 (eI b.ll b.lm) fun n _=>by
  have h2:=Ez (iv b ss ms) ml 0 ⟨n,0,0,0⟩ fun m h=>(hm.mem m h).2.2.2.2;have h3:3 ^ ml.length<=3 ^ 3:=Nat.pow_le_pow_right oM hm.len;omega
 have h2:=Eb b.ll b.lm;have h3:=hb.leak;unfold aT;omega
def lQ(b:BB)(bm aH az:aj)(ml:List Mn)(ss:List Int)(ms:List Mk)(w:ak)(hB:bW b bm aH az ml ss ms w) :
  a_ aq 116 #[.func (.func 117) #[.agg (b.cells bm aH az)] #[]] w fun e w'=>∃v,e=.returned v/\ie w' w.heap.size v (aT b ml ss ms)/\Bw w w':=by
 have hl:=ic ss ms hB.ok hB.eT;have H:=ai (GI (.agg (b.cells bm aH az)) (aT b ml ss ms) oM w (Ia b bm aH az ml ss ms w hB) w (ay _ _));clear hB;generalize aT b ml ss ms=all at *
 go_enter Tryz.func116,Tryz.ntmps116
 go_wp2_with (go_at_call 168;refine H.out.mono ?_;rintro e w' ⟨v,rfl,ho,hb⟩;have HO:=ai ho;clear ho)
 go_ret
 exact⟨v,rfl,HO.out,hb⟩
def za{fn:Func}{t:kG}(h:fn.results = #[.cell t 4]){tmps:Array aj}{w:ak}{B:Nat}{z:Bool}(hp:tmps.getD t ar=pv B 0)(hc:w.cell? ⟨B,0,none⟩=some (.bool z)) :
  (results fn tmps).run aq w=.ok (.bool z) w:=by
 rw[aY] at hp;unfold results;rw[h];simp only[List.mapM_toArray,go_sem];go_simp
def DG(b:BB)(bm aH az:aj)(ml:List Mn)(ss:List Int)(ms:List Mk)(w:ak)(hB:bW b bm aH az ml ss ms w) :
  a_ aq 119 #[.agg (b.cells bm aH az)] w (Rt w (.bool (decide (aT b ml ss ms≠[])))):=by
 have HSQ:=ai (Ia b bm aH az ml ss ms w hB);clear hB;generalize aT b ml ss ms=all at *;refine callsIn_wide (n:=0).1 (callsIn_of_wp_marks Tryz.func119 rfl trivial ?_ rfl);simp only[Tryz.ntmps119,jG,eE,oD,Db,Da,km,kj,jH,iA,jk,iD]
 gi_wp2
 have hb1:Bw w ((w.alloc (.cells (b.cells bm aH az) 119)).alloc (.cells #[.bool false] 4)):=cY.alloc sM _
 have Ux:Boxed ((w.alloc (.cells (b.cells bm aH az) 119)).alloc (.cells #[.bool false] 4)) (w.heap.size+1) 4 (.bool false):=by
  have:=Boxed.new (w.alloc (.cells (b.cells bm aH az) 119)) 4 (.bool false);rwa [dQ] at this
 refine sD (gf:=117) (la:=#[.agg (b.cells bm aH az)]) rfl (enters_of Tryz.func117 kQ rfl) (encs:=RR) (all:=all) (w0:=w) HSQ.out hb1 (fun _=>rfl)
  (fun pre X W=>pre=[]/\Boxed W (w.heap.size+1) 4 (.bool false)/\∀k,X k↔k=w.heap.size+1) (fun c _ X W=>c=.ret/\all≠[]/\Boxed W (w.heap.size+1) 4 (.bool true)/\∀k,X k↔k=w.heap.size+1)
  (fun _ _ _ _ h hs=>⟨h.1,(hs _ ((h.2.2 _).2 rfl)).trans h.2.1,h.2.2⟩) (fun _ _ _ _ _ h hs=>⟨h.1,h.2.1,(hs _ ((h.2.2.2 _).2 rfl)).trans h.2.2.1,h.2.2.2⟩)
  (fun _ _ _ h k hk=>by rw[(h.2.2 k).1 hk];exact h.2.1.lt) (fun _ _ _ _ h k hk=>by rw[(h.2.2.2 k).1 hk];exact h.2.2.1.lt)
  (fun k=>k=w.heap.size+1) (by rintro k rfl;exact⟨oM,sM⟩) ⟨rfl,Ux,fun _=>Iff.rfl⟩
  (fun pre x a' X W=>a'=⟨#[.agg (b.cells bm aH az),pv w.heap.size 0,pv (w.heap.size+1) 0,.agg (b.cells bm aH az),.func (.func 117) #[.agg (b.cells bm aH az)] #[],.agg x.cells],[]⟩/\Boxed W (w.heap.size+1) 4 (.bool false)/\∀k,X k↔k=w.heap.size+1)
  (fun _ _ _ _ _ _ h hs=>⟨h.1,(hs _ ((h.2.2 _).2 rfl)).trans h.2.1,h.2.2⟩) ?rassign ?rbody ?rdone ?rstop
 case rassign=>
  rintro l m pre x X1 W K ⟨rfl,h1,h2⟩ hge hpre hK;have HK:=ai hK;clear hK
  gi_wp2
  exact HK.out _ X1 _ (Step.refl _ _) ⟨sM,h1,h2⟩
 case rbody=>
  rintro l m pre x a' X1 W ⟨rfl,h1,h2⟩ hge hpre;have c0:=h1.cell;have c1:=h1.frozen
  have hne:all≠[]:=by
   rintro rfl;have:=hpre.length_le;simp at this
  have HN:=ai hne;clear hne
  gi_wp2
  refine⟨X1,⟨rfl,rfl,rfl,sM,fun _ _ h=>h,fun k hk hx=>bp _ _ _ _ (by rintro rfl;exact hx ((h2 _).2 rfl))⟩,rfl,HN.out,h1.set _,h2⟩
 case rdone=>
  rintro D X2 W hD hXD hst ⟨rfl,h1,h2⟩ hK;have b0:=h1.cell;have b1:=h1.frozen;have r5:Bw w W:=hb1.trans (hst.below sO (by rintro k hk rfl;omega));have HB:=ai r5;have HK:=ai hK;have HH:=ai h1;clear r5 h2 hst hK
  gi_wp2
  simp only[dQ] at hD;have hlt:=HH.out.lt;refine⟨sM,.inl ⟨_,_,rfl,run_takeDeferred ((bp _ _ _ _ (by show D≠w.heap.size+1;omega)).trans HK.out),?_⟩⟩;refine⟨_,za (B:=w.heap.size+1) (z:=false) rfl rfl ((World.cell?_of_block (dD (by show w.heap.size+1≠D;omega))).trans (HH.out.set _).cell),sM,?_⟩;exact(HB.out.setCell (p:=⟨w.heap.size+1,0,none⟩) (by show _<=w.heap.size+1;omega) _).trans (uj _ _ oM)
 case rstop=>
  rintro D c pre X2 W hD hXD hst ⟨rfl,hne,h1,h2⟩ hK;have r5:Bw w W:=hb1.trans (hst.below sO (by rintro k hk rfl;omega));have HB:=ai r5;have HK:=ai hK;have HH:=ai h1;have HN:=ai hne;clear r5 h2 hst hK hne h1
  gi_wp2
  simp only[dQ] at hD;refine⟨sM,.inl ⟨_,_,rfl,run_takeDeferred HK.out,?_⟩⟩;refine⟨_,za (B:=w.heap.size+1) (z:=true) rfl rfl ((World.cell?_of_block (dD (by show w.heap.size+1≠D;omega))).trans HH.out.cell),by simp[HN.out],?_⟩;exact HB.out.trans (uj _ _ oM)
abbrev eO:Array Value:=#[.int .i64 0,.int .i64 0,.int .i64 0,.int .i64 0,.int .i64 0,.int .i64 0,.int .i64 0,.int .i64 0,.int .i64 0,.int .i64 0,.int .i64 0,.int .i64 0,.slice none 0 0,.slice none 0 0,.slice none 0 0,.slice none 0 0]
def cX{w:ak}{B i:Nat}{cs:Array aj}{t:aZ}(u:aj)(h:w.heap[B]?=some (.cells cs t (0,0))):(w.setCell ⟨B,i,none⟩ u).heap[B]?=some (.cells (cs.setIfInBounds i u) t (0,0)):=by
 obtain⟨hk,h⟩:=ah.1 h;simp[ku,hk,h,BG]
def bX{w:ak}{B:Nat}{cs new:Array aj}{t:aZ}(h:w.heap[B]?=some (.cells cs t (0,0))):(w.setRow B new).heap[B]?=some (.cells new t (0,0)):=by
 obtain⟨hk,h⟩:=ah.1 h;simp[World.setRow,hk,h,BG]
def setRow_other{w:ak}{B k:Nat}{new:Array aj}(h:k≠B):(w.setRow B new).heap[k]?=w.heap[k]?:=by
 simp[World.setRow,Array.getElem?_modify,Ne.symm h]
def setRow_size{w:ak}{B:Nat}{new:Array aj}:(w.setRow B new).heap.size=w.heap.size:=by simp[World.setRow]
def cS{n B:Nat}{a w:ak}{new:Array aj}(h:fX n a w)(hB:n<=B):fX n a (w.setRow B new):=
 ⟨h.os,h.tape,h.output,by rw[setRow_size];exact h.size,fun k hk=>(setRow_other oM).trans (h.block k hk)⟩
def results_cell_tmp{fn:Func}{p q:kG}{ty:aZ}(h:fn.results = #[.cell p ty,.tmp q]){tmps:Array aj}{w:ak}{g:Nat}{cs:Array aj}
  (hp:tmps.getD p ar=pv g 0)
  (hl:(loadVar ty ⟨g,0,none⟩).run aq w=.ok (.agg cs) w) :
  (results fn tmps).run aq w=.ok (.tuple #[.agg cs,tmps.getD q ar]) w:=by
 have hp':tmps[p]?.getD ar=pv g 0:=by simpa using hp
 simp[results,h,hp',asAddr,hl]
def tW(b:BB)(bm aH az:aj)(ml:List Mn)(ss:List Int)(ms:List Mk)(w:ak)(hL:Laid w)(hB:bW b bm aH az ml ss ms w)(hne:aT b ml ss ms≠[])
  (hown:∀W,Bw w W->a_ aq 122 #[.agg (b.cells bm aH az)] W fun e W'=>e=.returned (.int .i64 0)/\Bw W W') :
  a_ aq 103 #[.agg (b.cells bm aH az),.func (.func 122) #[] #[]] w fun e w'=>∃v,e=.returned (.tuple #[.agg (b.open bm aH az v),.int .i64 0])/\ie w' w.heap.size v (aT b ml ss ms)/\Bw w w':=by
 have ql:Hid (∀W,Bw w W->a_ aq 71 #[.agg (b.cells bm aH az)] W fun e w'=>e=.returned (.int .i64 0)/\Bw W w'):=ai fun W hb=>dI b bm aH az ml ss ms W (hL.below hb) (hB.below hb);have MO:Hid (∀W,Bw w W->a_ aq 116 #[.func (.func 117) #[.agg (b.cells bm aH az)] #[]] W fun e w'=>∃v,e=.returned v/\ie w' W.heap.size v (aT b ml ss ms)/\Bw W w'):=ai fun W hb=>lQ b bm aH az ml ss ms W (hB.below hb);have MK:=ai hown;obtain⟨pm,cm,rfl,_⟩:=aR hB.rm;obtain⟨pn,cn,rfl,_⟩:=aR hB.rs;obtain⟨pk,ck,rfl,_⟩:=aR hB.rk;have jS:0<(aT b ml ss ms).length:=List.length_pos_iff.2 hne;clear hL hB hne hown;generalize aT b ml ss ms=all at *;generalize ml.length=lm at *;generalize ss.length=ln at *;generalize ms.length=lk at *;have b0:Bw w ((w.alloc (.cells (b.sl pm lm cm pn ln cn pk lk ck) 28)).alloc (.cells eO 122)):=cY.alloc sM _;have HT:Hid (Two w (b.sl pm lm cm pn ln cn pk lk ck) 28 eO 122 ((w.alloc (.cells (b.sl pm lm cm pn ln cn pk lk ck) 28)).alloc (.cells eO 122))):=ai ⟨(Two.mk' w _ _ _ _).one,(Two.mk' w _ _ _ _).two,b0,sM⟩;have Iq:=ai b0;clear b0
 go_enter Tryz.func103,Tryz.ntmps103
 go_wp2_with (first
  |(refine wpList_load_row rfl 122 _ rfl _ rfl 122 _ (0,0) _ HL7.out fS rfl kQ ?_)
  |(refine wpList_store_row rfl 122 _ _ rfl _ _ rfl rfl 122 _ OV.out kQ rfl (by simp[bK]) ?_)
  |(go_at_call 71;refine(ql.out _ Iq.out).mono ?_;clear ql;rintro e w1 ⟨rfl,hb1⟩
    have sw:=HT.out.next hb1;have o7:=ai sw
    obtain⟨x0,x1,x2,x3,x4,x5,x6,x7,x8,x9,qo,qm,rj,qX,q7⟩:=bU sw.one
    clear sw hb1)
  |(go_at_call 122;refine(MK.out _ (o7.out.below.alloc (by have:=o7.out.size;omega) _)).mono ?_;clear MK;rintro e w2 ⟨rfl,hb2⟩
    have CS:=(o7.out.next ((ay _ _).alloc (aJ _) (.cells (b.open (.slice pm lm cm) (.slice pn ln cn) (.slice pk lk ck) (.slice none 0 0)) 122))).next hb2;have GM:=ai CS
    have hk2:=(hb2.block w1.heap.size sM).trans (ax w1 _);have GQ:=ai hk2;have hs1:=o7.out.size;have hs2:=hb2.size;obtain⟨y0,y1,y2,y3,y4,y5,y6,y7,y8,y9,M7,O3,OZ,OY,Ki,Iw⟩:=jy hk2
    clear CS hk2 hb2)
  |(go_at_call 116;refine(MO.out _ GM.out.below).mono ?_;clear MO;rintro e w3 ⟨v,rfl,iH,hb3⟩
    have FX:=GM.out.next hb3;have Qd:=ai FX;have ML:=ai iH
    simp only[dQ] at hs2;have hk3:=(hb3.block w1.heap.size oM).trans GQ.out;have HK3:=ai hk3;have hs3:=hb3.size;clear y0 y1 y2 y3 y4 y5 y6 y7 y8 y9 M7 O3 OZ OY Ki Iw;have Iw:=aK hk3 15 _ rfl;have f7:=cQ hk3 15;have o8:=ai hb3
    obtain⟨gv,oV,rfl,EJ⟩:∃gv oV,v=.slice (some ⟨gv,0,none⟩) all.length oV/\w2.heap.size<=gv:=by
     rcases iH.1.2 with⟨_,h0⟩|⟨g,cap,cur,rfl,hg,_⟩
     .omega
     exact⟨g,cap,rfl,hg⟩
    have HL7:Hid ((w3.setCell ⟨w1.heap.size,15,none⟩ (.slice (some ⟨gv,0,none⟩) all.length oV)).heap[w1.heap.size]?=some (.cells (b.open (.slice pm lm cm) (.slice pn ln cn) (.slice pk lk ck) (.slice (some ⟨gv,0,none⟩) all.length oV)) 122 (0,0))):=ai (cX _ hk3);have OV:Hid ((w3.setCell ⟨w1.heap.size,15,none⟩ (.slice (some ⟨gv,0,none⟩) all.length oV)).heap[w.heap.size+1]?=some (.cells eO 122 (0,0))):=ai ((bp _ _ _ _ (by show w.heap.size+1≠w1.heap.size;omega)).trans FX.two)
    clear FX hk3 hb3 iH))
 refine bodyPost_ret (results_cell_tmp (g:=w.heap.size+1) rfl rfl (run_loadVar_row _ _ 122 122 _ (0,0) _ (bX OV.out) fS rfl kQ)) rfl ⟨_,rfl,?_,?_⟩
 .have hs1:=o7.out.size;refine(ML.out.at_ fun g hg=>?_).base oM;have EM:g=gv:=by simpa [ji] using hg.symm
  subst EM;exact(setRow_other oM).trans (bp _ _ _ _ (by show g≠w1.heap.size;omega))
 have hs1:=o7.out.size;exact cS (Qd.out.below.setCell (p:=⟨w1.heap.size,15,none⟩) (by show _<=w1.heap.size;omega) _) oM
end Go.Proofs.YtffladgmkiimjaaGreatDoor
namespace Go.Lag
open Go Go.RowKit Go.Proofs.YtffladgmkiimjaaGreatDoor
abbrev Es:=List (kG × En)
def WX(d:kG)(ch:List (Nat × Bool)):Bool:=ch.all fun p=>!Nat.beq p.1 d
section
variable(P:aL)(aM:Array cI)(base:List (kG × aj))(C:Cf)(n:Nat)
def qZ(es:Es):bI->aj
 |.const v=>v
 |.global g=>.pointer (some ⟨g,0,none⟩)
 |.func f=>.func (.func f) #[] #[]
 |.tmp t=>match mD es t with
  |some e=>e.2.1
  |none=>(mD base t).getD ar
def SC(es:Es)(ch:List (Nat × Bool)):bI->Bool
 |.tmp t=>match mD es t with
  |some e=>subs e.1 ch
  |none=>(mD base t).isSome
 |_=>true
def R1(es:Es)(g:kG):List (Nat × Bool):=match mD es g with|some e=>e.1|none=>[]
def RG(es:Es)(o:cI):Option (List (Nat × Bool)):=
 match o.guard with
 |none=>some []
 |some (j,b)=>match d_ aM j with
  |none=>none
  |some g=>match mD C.lits g with
   |some b'=>bif b'==b then some (R1 es g) else none
   |none=>some ((g,b)::R1 es g)
def ZT:bI->Option Bool
 |.tmp t=>mD C.lits t
 |_=>none
def O4(c:bI)(b:Bool)(ch:List (Nat × Bool)):List (Nat × Bool):=
 match c with
 |.tmp t=>(t,b)::ch
 |_=>ch
def Hs(es:Es)(i:Nat)(o:cI):Option (Next × List Nat):=look P (Va C i) (cu (qZ base es) o)
def xJ(es:Es)(i:Nat)(o:cI):aj × List Nat:=
 match mD C.hs i with
 |some v=>(v,[])
 |none=>match o.op with
  |.pick c a b=>(match ZT C c with
   |some true=>qZ base es a
   |some false=>qZ base es b
   |none=>bools (qZ base es c) (qZ base es a) (qZ base es b),[])
  |_=>match Hs P base C es i o with
   |some (.value v,bl)=>(v,bl)
   |_=>(ar,[])
def r8(es:Es)(i:Nat)(o:cI):En:=
 match RG aM C es o with
 |none=>([],ar,[])
 |some ch=>(ch,xJ P base C es i o)
def Ns(es:Es)(i:Nat)(o:cI):Es:=
 match o.dst with
 |some d=>(d,r8 P aM base C es i o)::es
 |none=>es
def Gg:Nat->List cI->Es->Es
 |_,[],es=>es
 |i,o::l,es=>Gg (i+1) l (Ns P aM base C es i o)
def jW(es:Es)(ch:List (Nat × Bool)):Bool:=ch.all fun p=>NP (qZ base es (.tmp p.1)) p.2
def okO(es:Es)(i:Nat)(o:cI)(ch:List (Nat × Bool)):Bool:=
 match o.op with
 |.pick c a b=>(mD C.hs i).isNone&&SC base es ch c&&(match ZT C c with
  |some true=>NP (qZ base es c) true&&SC base es ch a
  |some false=>NP (qZ base es c) false&&SC base es ch b
  |none=>isBool (qZ base es c)&&isBool (qZ base es a)&&isBool (qZ base es b)&&SC base es (O4 c true ch) a&&SC base es (O4 c false ch) b)
 |_=>(match uz o.op with
   |some l=>l.all (SC base es ch)
   |none=>false) &&
  (match mD C.hs i with
  |some _=>true
  |none=>match Hs P base C es i o with
   |some (.value _,bl)=>(qB C i).isSome||bl.isEmpty
   |_=>false)
def UK(es:Es)(o:cI):Bool:=
 match o.guard with
 |none=>true
 |some (j,_)=>match d_ aM j with
  |none=>false
  |some g=>((mD es g).isSome||(mD base g).isSome)&&(match mD C.lits g with | some b'=>NP (qZ base es (.tmp g)) b' | none=>true)
def PY(es:Es)(e:En)(o:cI):Bool:=
 match o.dst with
 |none=>true
 |some d=>Nat.blt d n&&WX d e.1&&es.all fun p=>WX d p.2.1
def X4:Nat->List cI->Es->Bool
 |_,[],_=>true
 |i,o::l,es=>(UK aM base C es o&&(match RG aM C es o with
  |none=>true
  |some ch=>okO P base C es i o ch)&&PY n es (r8 P aM base C es i o) o)&&X4 (i+1) l (Ns P aM base C es i o)
def Xd:Nat->List cI->Es->List (List Nat)
 |_,[],_=>[]
 |i,o::l,es=>(r8 P aM base C es i o).2.2::Xd (i+1) l (Ns P aM base C es i o)
def Xc:Nat->List cI->Es->List (List Nat)
 |_,[],_=>[]
 |i,o::l,es=>((r8 P aM base C es i o).2.2.map fun _=>((qB C i).map (·.1)).getD 0)::Xc (i+1) l (Ns P aM base C es i o)
def zR(i k:Nat):List Oper:=(aM.toList.drop i).take k
def L9(i j:Nat):Es:=Gg P aM base C i (zR aM i (j-i)) []
def SV(G:Nat->iN Next->ak->aj->Prop)(S:ak->Prop)(i:Nat):List (Nat × aj)->Prop
 |[]=>True
 |p::l=>(∀w,S w->jW base (L9 P aM base C i p.1) (r8 P aM base C (L9 P aM base C i p.1) p.1 (opAt aM p.1)).1=true->G p.1 (cu (qZ base (L9 P aM base C i p.1)) (opAt aM p.1)) w p.2)/\SV G S i l
def acI(es:Es)(t:kG):Option Value:=
 match mD es t with
 |some e=>match e.1 with|[]=>some e.2.1|_=>none
 |none=>none
structure MI(a0:k9)(es:Es)(a:k9):Prop where
 size:a.tmps.size=n
 defers:a.defers=[]
 ent:∀t e,mD es t=some e->a.eval (.tmp t)=M4 (jW base es e.1) e.2.1
 bas:∀t v,mD es t=none->mD base t=some v->a.eval (.tmp t)=v
 keep:∀t,mD es t=none->a.eval (.tmp t)=a0.eval (.tmp t)
structure wO(Wp:List Nat->k9->ak->Prop)(Y:mL):Prop where
 go:∀i rest o a w R,aM[i]?=some o->cL o (j8 aM a.tmps)=true->Y o a.eval w R->(∀v w',R v w'->Wp rest (a.put o.dst v) w')->Wp (i::rest) a w
 no:∀i rest o a w,aM[i]?=some o->¬cL o (j8 aM a.tmps)=true->Wp rest (a.put o.dst ar) w->Wp (i::rest) a w
def vw(dz:List (kG × aj))(i k:Nat)(outs:List (kG × aj)):Bool × List (List Nat) × List (Option aj):=
 (Nat.ble (i+k) aM.size&&(dz.all fun p=>(mD (Gg P aM base C i (zR aM i k) []) p.1).isNone)&&X4 P aM base C n i (zR aM i k) [],Xd P aM base C i (zR aM i k) [],outs.map fun p=>acI (Gg P aM base C i (zR aM i k) []) p.1)
def vv(i k:Nat)(outs:List (kG × aj)):Bool × List (List Nat) × List (Option aj):=(true,Xc P aM base C i (zR aM i k) [],outs.map fun p=>some p.2)
end
section
variable{P:aL}{aM:Array cI}{base:List (kG × aj)}{C:Cf}{n:Nat}{S:ak->Prop}{a0:k9}
theorem vC{β:Type}(d:Nat)(e:β)(es:List (Nat × β))(t:Nat):mD ((d,e)::es) t=if d=t then some e else mD es t:=by
 show(bif F6 d t then some e else mD es t)=_;cases hb:F6 d t with
 |true=>rw[if_pos (iu hb)];rfl
 |false=>rw[if_neg (fun h=>by subst h;rw[Nat.beq_refl] at hb;cases hb)];rfl
theorem Dl{es:Es}{t:kG}:qZ base es (.tmp t)=match mD es t with|some e=>e.2.1|none=>(mD base t).getD undef:=rfl
theorem Kq{o:cI}{j g:Nat}{b:Bool}{a:k9}(hgd:o.guard=some (j,b))(MX:d_ aM j=some g):cL o (j8 aM a.tmps)=true↔a.eval (.tmp g)=.bool b:=by
 have hd:(aM[j]?).bind (·.dst)=some g:=MX;have hy:j8 aM a.tmps j=match a.tmps[g]? with|some (.bool x)=>some x|_=>none:=by unfold j8;rw[hd];rfl
 have he:a.eval (.tmp g)=(a.tmps[g]?).getD undef:=by unfold Act.eval;simp only[aY]
 unfold cL;rw[hgd,he];simp only[];rw[hy];cases h8:a.tmps[g]? with
 |none=>simp[ar]
 |some v=>cases v<;>simp
theorem EA{ev:bI->aj}{t:kG}{v:aj}:∀ {l:List (kG × aj)},gp ev l->mD l t=some v->ev (.tmp t)=v
 |p::l,hb,h=>by
  obtain⟨d,x⟩:=p;rw[vC] at h;split at h
  .rename_i hd;subst hd;cases h;exact hb.1
  exact EA hb.2 h
theorem Yw{es:Es}{a:k9}{ch:List (Nat × Bool)}(hi:MI base n a0 es a)(hc:jW base es ch=true):∀ {x:bI},SC base es ch x=true->a.eval x=qZ base es x
 |.const v,_=>rfl
 |.global g,_=>rfl
 |.func f,_=>rfl
 |.tmp t,h=>by
  unfold SC at h;unfold qZ;simp only[] at h ⊢;cases hs:mD es t with
  |none=>
   rw[hs] at h;simp only[] at h ⊢;cases hk:mD base t with
   |none=>rw[hk] at h;cases h
   |some v=>exact hi.bas t v hs hk
  |some e=>
   rw[hs] at h;simp only[] at h ⊢;rw[hi.ent t e hs]
   have:jW base es e.1=true:=by
    unfold subs at h;unfold jW at *;rw[bf] at *;intro p hp;obtain⟨q,hq,h1⟩:=List.any_eq_true.1 (h p hp);rw[aF] at h1;have h2:=hc q hq;rw[iu h1.1,eq_of_beq h1.2];exact h2
   rw[this];rfl
theorem Me{es:Es}{d:kG}{e:En}{ch:List (Nat × Bool)}(h:WX d ch=true):jW base ((d,e)::es) ch=jW base es ch:=by
 unfold jW;unfold WX at h;rw[bf] at h;rw[Bool.eq_iff_iff,bf,bf];refine forall_congr' fun p=>forall_congr' fun hp=>?_;have h1:=h p hp;have hne:d≠p.1:=fun e=>by rw[<-e,Nat.beq_refl] at h1;cases h1
 rw[Dl,Dl,vC,if_neg hne]
theorem PA{es:Es}{a:k9}{i:Nat}{o:cI}{v:aj}(hi:MI base n a0 es a)(hd:PY n es (r8 P aM base C es i o) o=true)(hv:∀d,o.dst=some d->v=M4 (jW base es (r8 P aM base C es i o).1) (r8 P aM base C es i o).2.1) :
  MI base n a0 (Ns P aM base C es i o) (a.put o.dst v):=by
 unfold Ns;unfold PY at hd;cases hdd:o.dst with
 |none=>exact⟨hi.size,hi.defers,hi.ent,hi.bas,hi.keep⟩
 |some d=>
  rw[hdd] at hd;simp only[aF] at hd ⊢;obtain⟨⟨h1,h2⟩,h3⟩:=hd
  have hdn:d<n:=by
   unfold Nat.blt at h1;exact Nat.le_of_ble_eq_true h1
  rw[bf] at h3;refine⟨by rw[ze,hi.size],by rw[put_defers,hi.defers],fun t e ht=>?_,fun t u ht hb=>?_,fun t ht=>?_⟩
  .rw[vC] at ht;split at ht
   .rename_i hdt;subst hdt;cases ht;rw[put_eq a d v (by rw[hi.size];exact hdn),Me h2];exact hv d hdd
   rename_i hdt;rw[tS _ _ _ _ (by simpa using hdt),hi.ent t e ht,Me];exact h3 (t,e) (zA ht)
  .rw[vC] at ht;split at ht
   .cases ht
   rename_i hdt;rw[tS _ _ _ _ (by simpa using hdt)];exact hi.bas t u ht hb
  rw[vC] at ht;split at ht
  .cases ht
  rename_i hdt;rw[tS _ _ _ _ (by simpa using hdt)];exact hi.keep t ht
theorem SV.get{G:Nat->iN Next->ak->aj->Prop}{i:Nat}:∀ {l:List (Nat × aj)} {p:Nat × aj},SV P aM base C G S i l->p∈l->∀w,S w->jW base (L9 P aM base C i p.1) (r8 P aM base C (L9 P aM base C i p.1) p.1 (opAt aM p.1)).1=true->G p.1 (cu (qZ base (L9 P aM base C i p.1)) (opAt aM p.1)) w p.2
 |q::l,p,h,hp=>by
  rcases cy.1 hp with rfl|hp
  .exact h.1
  exact SV.get h.2 hp
theorem Wi{es:Es}{i:Nat}{o:cI}(Rl:∀c a b,o.op≠.pick c a b)(AY:mD C.hs i=none):xJ P base C es i o=match Hs P base C es i o with|some (.value v,bl)=>(v,bl)|_=>(ar,[]):=by
 unfold xJ;rw[AY];cases ho:o.op<;>first|exact absurd ho (Rl _ _ _)|rfl
theorem ZH{es:Es}{i:Nat}{o:cI}{ch:List (Nat × Bool)}(Rl:∀c a b,o.op≠.pick c a b):okO P base C es i o ch=((match uz o.op with | some l=>l.all (SC base es ch) | none=>false)&&(match mD C.hs i with | some _=>true | none=>match Hs P base C es i o with | some (.value _,bl)=>(qB C i).isSome||bl.isEmpty | _=>false)):=by
 unfold okO;cases ho:o.op<;>first|exact absurd ho (Rl _ _ _)|rfl
theorem Zr{Wp:List Nat->k9->ak->Prop}{Y:mL}{G:Nat->iN Next->ak->aj->Prop}{T:ak->ak->Prop}(L:wO aM Wp Y)(VZ:∀w w',S w->T w w'->S w')(Ry:∀w,T w w)
  {i:Nat} {o:cI} (ho:aM[i]?=some o) (hn:mD C.hs i=none->∀s w v,s.run P w=.ok (.value v) w->G i s w v)
  (hY:∀ev w v R,S w->(∀w',S w'->G i (cu ev o) w' v)->(∀w',T w w'->R v w')->Y o ev w R) (hm:nY S C.mem)
  {es:Es} {a:k9} {w:ak} {rest:List Nat} (hi:MI base n a0 es a) (hS:S w) (h1:UK aM base C es o=true) (h2:∀ch,RG aM C es o=some ch->okO P base C es i o ch=true) (h3:PY n es (r8 P aM base C es i o) o=true)
  (h4:∀b∈(r8 P aM base C es i o).2.2,b=((qB C i).map (·.1)).getD 0) (h5:∀v,mD C.hs i=some v->∀w,S w->jW base es (r8 P aM base C es i o).1=true->G i (cu (qZ base es) o) w v)
  (hk:∀a w,S w->MI base n a0 (Ns P aM base C es i o) a->Wp rest a w):Wp (i::rest) a w:=by
 have go:∀ch,RG aM C es o=some ch->jW base es ch=true->cL o (j8 aM a.tmps)=true->Wp (i::rest) a w:=fun ch hgd mr hw=>by
  have uO:=h2 ch hgd;have hse:r8 P aM base C es i o=(ch,xJ P base C es i o):=by unfold r8;rw[hgd]
  have hput:∀w',T w w'->∀u,u=(xJ P base C es i o).1->Wp rest (a.put o.dst u) w':=fun w' ht u hu=>hk _ _ (VZ _ _ hS ht) (PA hi h3 fun d _=>by
   rw[hse];show u=M4 (jW base es ch) (xJ P base C es i o).1
   rw[mr,hu];rfl)
  have hop:∀ {ch':List (Nat × Bool)} {x:bI},jW base es ch'=true->SC base es ch' x=true->a.eval x=qZ base es x:=fun g1 g2=>Yw hi g1 g2
  have fin:(∀w',S w'->G i (cu a.eval o) w' (xJ P base C es i o).1)->Wp (i::rest) a w:=fun hg=>
   L.go i rest o a w (fun v w'=>v=(xJ P base C es i o).1/\T w w') ho hw (hY _ _ _ _ hS hg fun w' ht=>⟨rfl,ht⟩) fun v w' ⟨e,ht⟩=>hput w' ht v e
  have rest':(∀c a b,o.op≠.pick c a b)->Wp (i::rest) a w:=fun Rl=>by
   have h6:(match uz o.op with | some l=>l.all (SC base es ch) | none=>false)=true/\(match mD C.hs i with | some _=>true | none=>match Hs P base C es i o with | some (.value _,bl)=>(qB C i).isSome||bl.isEmpty | _=>false)=true:=by
    rw[ZH Rl,aF] at uO;exact uO
   cases hl:uz o.op with
   |none=>rw[hl] at h6;cases h6.1
   |some l=>
    rw[hl] at h6;have hex:cu a.eval o=cu (qZ base es) o:=execOp_congr hl fun x hx=>hop mr (bf.1 h6.1 x hx);cases AY:mD C.hs i with
    |some v=>
     have hv:(xJ P base C es i o).1=v:=by unfold xJ;rw[AY]
     refine fin fun w' M0=>?_;rw[hex,hv];exact h5 v AY w' M0 (by rw[hse];exact mr)
    |none=>
     rw[AY] at h6;cases hlk:Hs P base C es i o with
     |none=>rw[hlk] at h6;cases h6.2
     |some nb=>
      obtain⟨nx,bl⟩:=nb;rw[hlk] at h6;cases nx<;>try (cases h6.2;done)
      rename_i v;have hv:xJ P base C es i o=(v,bl):=by rw[Wi Rl AY,hlk]
      refine fin fun w' M0=>hn AY _ _ _ ?_;rw[hv,hex];refine mJ hlk fun b Rw=>?_;have h7:=h4 b (by rw[hse,hv];exact Rw);have h8:=h6.2;simp only[] at h8;unfold Va;cases hmm:qB C i with
      |none=>
       rw[hmm] at h8;cases bl with
       |nil=>cases Rw
       |cons _ _=>cases h8
      |some m=>
       rw[hmm] at h7;have h7:b=m.1:=h7;subst h7;unfold qB at hmm;exact hm.get (List.mem_of_getElem? hmm) w' M0
  by_cases SI:∃c a b,o.op=.pick c a b
  case neg=>exact rest' fun c a b h=>SI ⟨c,a,b,h⟩
  obtain⟨c,x,y,AW⟩:=SI;unfold okO at uO;rw[AW] at uO;simp only[aF] at uO;obtain⟨⟨hnone,aae⟩,rX⟩:=uO;have AY:mD C.hs i=none:=by simpa using hnone
  have N1:=hop mr aae;cases Jw:ZT C c with
  |some t=>
   rw[Jw] at rX
   have hv:(xJ P base C es i o).1=if t then qZ base es x else qZ base es y:=by
    unfold xJ;rw[AY,AW];simp only[Jw];cases t<;>rfl
   cases t with
   |true=>
    rw[aF] at rX;refine fin fun w' M0=>hn AY _ _ _ ?_;rw[hv,ru AW (N1.trans (oz.1 rX.1)),if_pos rfl,if_pos rfl,hop mr rX.2]
   |false=>
    rw[aF] at rX;refine fin fun w' M0=>hn AY _ _ _ ?_;rw[hv,ru AW (N1.trans (oz.1 rX.1)),if_neg sM,if_neg sM,hop mr rX.2]
  |none=>
   rw[Jw] at rX;simp only[aF] at rX;obtain⟨⟨⟨⟨g1,g2⟩,g3⟩,g4⟩,g5⟩:=rX
   have hv:(xJ P base C es i o).1=bools (qZ base es c) (qZ base es x) (qZ base es y):=by
    unfold xJ;rw[AY,AW];simp only[Jw]
   have ib:∀ {v:aj},isBool v=true->∃x,v=.bool x:=fun {v} h=>by cases v<;>first|exact⟨_,rfl⟩|cases h
   obtain⟨t,ht⟩:=ib g1;obtain⟨x',hx⟩:=ib g2;obtain⟨y',hy⟩:=ib g3
   have hw2:∀q,t=q->jW base es (O4 c q ch)=true:=fun q hq=>by
    unfold O4;cases c<;>simp only[]<;>try exact mr
    unfold jW at mr ⊢;rw[dP,mr,ht,hq];cases q<;>rfl
   refine fin fun w' M0=>hn AY _ _ _ ?_;rw[hv,ru AW (N1.trans ht),ht,hx,hy];cases t with
   |true=>rw[if_pos rfl,hop (hw2 true rfl) g4,hx];rfl
   |false=>rw[if_neg sM,hop (hw2 false rfl) g5,hy];rfl
 cases hgd:o.guard with
 |none=>exact go [] (by unfold RG;rw[hgd]) rfl (by simp[cL,hgd])
 |some jb=>
  obtain⟨j,b⟩:=jb;unfold UK at h1;rw[hgd] at h1;simp only[] at h1;cases MX:d_ aM j with
  |none=>rw[MX] at h1;cases h1
  |some g=>
   rw[MX] at h1;simp only[aF] at h1;obtain⟨hkn,hlt⟩:=h1
   have hval:a.eval (.tmp g)=M4 (jW base es (R1 es g)) (qZ base es (.tmp g)):=by
    unfold R1;rw[Dl];cases qY:mD es g with
    |some e=>exact hi.ent g e qY
    |none=>
     rw[qY] at hkn;cases hb:mD base g with
     |none=>rw[hb] at hkn;cases hkn
     |some v=>rw[hi.bas g v qY hb];rfl
   have Ub:=Kq (a:=a) hgd MX
   have skip:r8 P aM base C es i o=([],ar,[])\/jW base es (r8 P aM base C es i o).1=false->¬a.eval (.tmp g)=.bool b->Wp (i::rest) a w:=fun hs hne=>
    L.no i rest o a w ho (fun h=>hne (Ub.1 h)) (hk _ _ hS (PA hi h3 fun d _=>by
     rcases hs with hs|hs
     .rw[hs];rfl
     rw[hs];rfl))
   cases qY:mD C.lits g with
   |some b'=>
    rw[qY] at hlt;rw[oz.1 hlt] at hval
    by_cases o6:b'=b
    .subst o6;have wS:RG aM C es o=some (R1 es g):=by unfold RG;rw[hgd];simp only[MX,qY];simp
     cases hcc:jW base es (R1 es g) with
     |true=>rw[hcc] at hval;exact go _ wS hcc (Ub.2 hval)
     |false=>rw[hcc] at hval;exact skip (.inr (by unfold r8;rw[wS];exact hcc)) (by rw[hval];simp[M4,ar])
    .have wS:RG aM C es o=none:=by
      unfold RG;rw[hgd];simp only[MX,qY];have:(b'==b)=false:=beq_false_of_ne o6;rw[this];rfl
     refine skip (.inl (by unfold r8;rw[wS])) ?_;rw[hval];cases jW base es (R1 es g) with
     |true=>simp[M4];exact o6
     |false=>simp[M4,ar]
   |none=>
    have wS:RG aM C es o=some ((g,b)::R1 es g):=by unfold RG;rw[hgd];simp only[MX,qY]
    have hca:jW base es ((g,b)::R1 es g)=(NP (qZ base es (.tmp g)) b&&jW base es (R1 es g)):=by unfold jW;rw[dP]
    cases hcc:jW base es (R1 es g) with
    |false=>rw[hcc] at hval;exact skip (.inr (by unfold r8;rw[wS];show jW base es ((g,b)::R1 es g)=false;rw[hca,hcc,Bool.and_false])) (by rw[hval];simp[M4,ar])
    |true=>
     rw[hcc] at hval;have hval:a.eval (.tmp g)=qZ base es (.tmp g):=hval;cases hib:NP (qZ base es (.tmp g)) b with
     |true=>exact go _ wS (by rw[hca,hcc,hib];rfl) (Ub.2 (hval.trans (oz.1 hib)))
     |false=>
      refine skip (.inr (by unfold r8;rw[wS];show jW base es ((g,b)::R1 es g)=false;rw[hca,hib];rfl)) fun h=>?_;have h9:=oz.2 (hval.symm.trans h);rw[hib] at h9;cases h9
theorem O9{Wp:List Nat->k9->ak->Prop}{Y:mL}{G:Nat->iN Next->ak->aj->Prop}{T:ak->ak->Prop}(L:wO aM Wp Y)(VZ:∀w w',S w->T w w'->S w')(Ry:∀w,T w w)
  (hn:∀i,mD C.hs i=none->∀s w v,s.run P w=.ok (.value v) w->G i s w v)
  (hY:∀i o ev w v R,S w->(∀w',S w'->G i (cu ev o) w' v)->(∀w',T w w'->R v w')->Y o ev w R) (hm:nY S C.mem) {rest:List Nat} :
  ∀(l:List cI) (i:Nat) (es:Es) (a:k9) (w:ak),(∀j o,l[j]?=some o->aM[i+j]?=some o)->X4 P aM base C n i l es=true->Xd P aM base C i l es=Xc P aM base C i l es->
  (∀j v,mD C.hs (i+j)=some v->j<l.length->∀w,S w->jW base (Gg P aM base C i (l.take j) es) (r8 P aM base C (Gg P aM base C i (l.take j) es) (i+j) (opAt aM (i+j))).1=true->G (i+j) (cu (qZ base (Gg P aM base C i (l.take j) es)) (opAt aM (i+j))) w v)->
  MI base n a0 es a->S w->(∀a w,S w->MI base n a0 (Gg P aM base C i l es) a->Wp rest a w)->Wp (bP i l.length++rest) a w
 |[],i,es,a,w,_,_,_,_,hi,hS,hk=>hk a w hS hi
 |o::l,i,es,a,w,hat,hck,Rm,hh,hi,hS,hk=>by
  have ho:aM[i]?=some o:=hat 0 o rfl;have hoa:opAt aM i=o:=by unfold opAt;simp[List.getD,ho]
  unfold X4 at hck;rw[aF,aF,aF] at hck;unfold Xd Xc at Rm;rw[Ar] at Rm;show Wp (i::(bP (i+1) l.length++rest)) a w;refine Zr L VZ Ry ho (hn i) (hY i o) hm hi hS hck.1.1.1 (fun ch hg=>by have:=hck.1.1.2;rw[hg] at this;exact this) hck.1.2 (fun b hb=>?_) (fun v hv w' M0 hc=>?_) fun a' w' M0 hi'=>?_
  .rw[Rm.1] at hb;obtain⟨_,_,rfl⟩:=dm.1 hb;rfl
  .have:=hh 0 v hv sM w' M0;rw[Nat.add_zero,hoa] at this;exact this hc
  refine O9 L VZ Ry hn hY hm l (i+1) _ a' w' (fun j o' hj=>?_) hck.2 Rm.2 (fun j v hv hj w2 Rz hc=>?_) hi' M0 hk
  .have:=hat (j+1) o' (by simpa using hj);rwa [show i+1+j=i+(j+1) by omega]
  have:=hh (j+1) v (by rwa [show i+(j+1)=i+1+j by omega]) (by simpa using hj) w2 Rz;rw[show i+(j+1)=i+1+j by omega] at this;exact this hc
theorem I5{Wp:List Nat->k9->ak->Prop}{Y:mL}{G:Nat->iN Next->ak->aj->Prop}{T:ak->ak->Prop}(L:wO aM Wp Y)(VZ:∀w w',S w->T w w'->S w')(Ry:∀w,T w w)
  (hn:∀i,mD C.hs i=none->∀s w v,s.run P w=.ok (.value v) w->G i s w v)
  (hY:∀i o ev w v R,S w->(∀w',S w'->G i (cu ev o) w' v)->(∀w',T w w'->R v w')->Y o ev w R)
  {dz:List (kG × aj)} {i k m:Nat} {outs:List (kG × aj)} {W:ak} (hF:ik n a0 base) (hF2:ik n a0 dz) (hr:vw P aM base C n dz i k outs=vv P aM base C i k outs) (hS:S W) (hm:nY S C.mem) (hh:SV P aM base C G S i C.hs)
  (hy:tK (fun l=>∀a w,S w->ik n a l->Wp (bP (i+k) m) a w) outs dz):Wp (bP i (k+m)) a0 W:=by
 unfold vw vv at hr;rw[g_,g_,aF,aF] at hr;obtain⟨⟨⟨hsz,hb2⟩,hck⟩,Rm,hout⟩:=hr;have hsz:=Nat.le_of_ble_eq_true hsz;have hlen:(zR aM i k).length=k:=by unfold zR;simp;omega
 have hcut:∀j o,(zR aM i k)[j]?=some o->aM[i+j]?=some o:=fun j o h=>by
  unfold zR at h;rw[List.getElem?_take] at h;split at h
  .rw[List.getElem?_drop] at h;simpa using h
  cases h
 have key:=O9 (rest:=bP (i+k) m) (a0:=a0) L VZ Ry hn hY hm (zR aM i k) i [] a0 W hcut hck Rm (fun j v hv hj w hSw=>?_) ⟨hF.size,hF.defers,(fun t e h=>by cases h),(fun t v _ h=>EA hF.base h),fun _ _=>rfl⟩ hS fun a w hSw hi=>?_
 .rw[hlen] at key;rwa [List.range'_append_1] at key
 .have:=hh.get (zA hv) w hSw
  have e:L9 P aM base C i (i+j)=Gg P aM base C i ((zR aM i k).take j) []:=by
   unfold L9 zR;rw[List.take_take,show i+j-i=j by omega,Nat.min_eq_left (by rw[hlen] at hj;omega)]
  simp only[e] at this;exact this
 .refine hy.get a w hSw (ik.rev ?_)
  have Ur:ik n a dz:=by
   refine⟨hi.size,hi.defers,hF2.base.congr fun p hp=>hi.keep _ ?_⟩;have:=bf.1 hb2 p hp;simpa using this
  refine⟨Ur.size,Ur.defers,?_⟩;clear hy
  induction outs with
  |nil=>exact Ur.base
  |cons p l ih=>
   rw[cP,cP,Ar] at hout;refine⟨?_,ih hout.2⟩;have h1:=hout.1;unfold acI at h1;cases he:mD (Gg P aM base C i (zR aM i k) []) p.1 with
   |none=>rw[he] at h1;cases h1
   |some e=>
    rw[he] at h1;simp only[] at h1;cases hc:e.1 with
    |cons _ _=>rw[hc] at h1;cases h1
    |nil=>
     rw[hc] at h1;have:=hi.ent p.1 e he;rw[hc] at this;rw[this,<-a7 h1];rfl
variable{Q:Exit->k9->ak->Prop}
theorem Lb:wO aM (wpOps P aM Q) (Yields P):=
 ⟨fun i rest o a w R ho hw hy hk=>by
  rw[wpOps_cons];exact wpOp_step ho fun K' hK=>by rw[if_pos hw];exact hy.wp fun v w' hv=>hK _ _ (hk v w' hv),
 fun i rest o a w ho hw hk=>by
  rw[wpOps_cons]
  exact wpOp_step ho fun K' hK=>by rw[if_neg hw];exact hK _ _ hk⟩
theorem jh(i k m:Nat)(C:Cf)(outs:List (kG × aj)){dz:List (kG × aj)}{W:ak}(hF:ik n a0 base)(hF2:ik n a0 dz)(hm:nY (fun w=>Bw W w) C.mem)(hh:SV P aM base C (fun _=>mC P) (fun w=>Bw W w) i C.hs)(hy:tK (fun l=>∀a w,Bw W w->ik n a l->wpOps P aM Q (bP (i+k) m) a w) outs dz)(hr:vw P aM base C n dz i k outs=vv P aM base C i k outs:=by kernel_rfl):wpOps P aM Q (bP i (k+m)) a0 W:=
 I5 (T:=fun w w'=>Bw w w') Lb (fun _ _ h hb=>h.trans (hb.mono h.size)) (fun w=>ay _ _) (fun i _ s w v h=>gr h) (fun i o ev w v R hS hg hR=>(hg w hS).yields hR) hF hF2 hr (ay _ _) hm hh hy
section
variable{id:Nat}{y:Code}{W:ak}{dz:List (kG × aj)}
theorem iU{N:Nat}(hN:aM.size=N)(h:wpOps P aM (Exit.then (fun a w=>y.wp P Q a w) Q) (bP 0 N) a0 W):(Code.seq (.region id aM false) y).wp P Q a0 W:=
 wp_seq (wp_region (by rw[m5,hN];exact h))
theorem aeD{N:Nat}(hN:aM.size=N)(h:wpOps P aM Q (bP 0 N) a0 W):(Code.region id aM false).wp P Q a0 W:=
 wp_region (by rw[m5,hN];exact h)
theorem jf{i:Nat}(h:y.wp P Q a0 W):wpOps P aM (Exit.then (fun a w=>y.wp P Q a w) Q) (bP i 0) a0 W:=h
theorem rK(C:Cf)(outs:List (kG × aj))(hF:ik n a0 base)(hF2:ik n a0 dz)(hm:nY (fun w=>Bw W w) C.mem)(hh:SV P aM base C (fun _=>mC P) (fun w=>Bw W w) 0 C.hs)(hy:tK (fun l=>∀a w,Bw W w->ik n a l->y.wp P Q a w) outs dz)(hr:vw P aM base C n dz 0 aM.size outs=vv P aM base C 0 aM.size outs:=by kernel_rfl):(Code.seq (.region id aM false) y).wp P Q a0 W:=
 iU rfl (jh (hr:=hr) 0 aM.size 0 C outs hF hF2 hm hh (by
  rw[cO]
  exact hy))
theorem fD(outs:List (kG × aj))(hF:ik n a0 base)(hy:tK (fun l=>∀a w,fX W.heap.size W w->ik n a l->y.wp P Q a w) outs base)(hr:vw P aM base ⟨[],[],[],[]⟩ n base 0 aM.size outs=vv P aM base ⟨[],[],[],[]⟩ 0 aM.size outs:=by kernel_rfl):(Code.seq (.region id aM false) y).wp P Q a0 W:=rK ⟨[],[],[],[]⟩ outs hF hF trivial trivial hy hr
theorem dY(i k m:Nat)(outs:List (kG × aj)){W:ak}(hF:ik n a0 base)(hy:tK (fun l=>∀a w,fX W.heap.size W w->ik n a l->wpOps P aM Q (bP (i+k) m) a w) outs base)(hr:vw P aM base ⟨[],[],[],[]⟩ n base i k outs=vv P aM base ⟨[],[],[],[]⟩ i k outs:=by kernel_rfl):wpOps P aM Q (bP i (k+m)) a0 W:=jh i k m ⟨[],[],[],[]⟩ outs hF hF trivial trivial hy hr
theorem M6(C:Cf)(outs:List (kG × aj))(hF:ik n a0 base)(hF2:ik n a0 dz)(hm:nY (fun w=>Bw W w) C.mem)(hh:SV P aM base C (fun _=>mC P) (fun w=>Bw W w) 0 C.hs)(hy:tK (fun l=>∀a w,Bw W w->ik n a l->Q .normal a w) outs dz)(hr:vw P aM base C n dz 0 aM.size outs=vv P aM base C 0 aM.size outs:=by kernel_rfl):(Code.region id aM false).wp P Q a0 W:=
 aeD rfl (jh (hr:=hr) 0 aM.size 0 C outs hF hF2 hm hh (by
  rw[cO]
  exact hy))
theorem tK.mono{K K':List (kG × aj)->Prop}(h:∀l,K l->K' l):∀ {r l:List (kG × aj)},tK K r l->tK K' r l
 |[],l,hk=>h l hk
 |p::r,l,hk=>tK.mono h (r:=r) hk
end
def Ay(P:aL)(aM:Array cI)(base:List (kG × aj))(C:Cf)(n:Nat)(dz:List (kG × aj))(i:Nat)(d:Option kG):Bool:=
 Nat.blt i aM.size&&UK aM base C [] (opAt aM i)&&(match RG aM C [] (opAt aM i) with|some []=>true|_=>false)&&(match uz (opAt aM i).op with|some l=>l.all (SC base [] [])|none=>false) &&
  (match (opAt aM i).dst,d with|some x,some y=>F6 x y&&Nat.blt y n&&dz.all fun p=>!Nat.beq p.1 y|none,none=>true|_,_=>false)
def fo:Option kG->aj->List (kG × aj)->List (kG × aj)
 |some d,v,l=>(d,v)::l
 |none,_,l=>l
theorem IE{Wp:List Nat->k9->ak->Prop}{Y:mL}(L:wO aM Wp Y){dz:List (kG × aj)}{i m:Nat}{d:Option kG}{W:ak}{R:aj->ak->Prop}(hF:ik n a0 base)(hF2:ik n a0 dz)(hc:Ay P aM base C n dz i d=true)
  (hY:∀ev,cu ev (opAt aM i)=cu (qZ base []) (opAt aM i)->Y (opAt aM i) ev W R) (hk:∀v w,R v w->∀a,ik n a (fo d v dz)->Wp (bP (i+1) m) a w):Wp (bP i (m+1)) a0 W:=by
 unfold Ay at hc;simp only[aF] at hc;obtain⟨⟨⟨⟨h1,h2⟩,h3⟩,h4⟩,h5⟩:=hc;have hi:i<aM.size:=by unfold Nat.blt at h1;exact Nat.le_of_ble_eq_true h1
 have ho:aM[i]?=some (opAt aM i):=by unfold opAt;simp[List.getD,hi]
 generalize opAt aM i=o at *;have hinv:MI base n a0 [] a0:=⟨hF.size,hF.defers,(fun t e h=>by cases h),(fun t v _ h=>EA hF.base h),fun _ _=>rfl⟩
 have hex:cu a0.eval o=cu (qZ base []) o:=by
  cases hl:uz o.op with
  |none=>rw[hl] at h4;cases h4
  |some l=>
   rw[hl] at h4;exact execOp_congr hl fun x hx=>Yw hinv (ch:=[]) rfl (bf.1 h4 x hx)
 have hw:cL o (j8 aM a0.tmps)=true:=by
  unfold cL;cases hgd:o.guard with
  |none=>rfl
  |some jb=>
   obtain⟨j,b⟩:=jb;unfold UK at h2;unfold RG at h3;rw[hgd] at h2 h3;simp only[] at h2 h3;cases MX:d_ aM j with
   |none=>rw[MX] at h2;cases h2
   |some g=>
    rw[MX] at h2 h3;simp only[aF] at h2 h3
    have hval:a0.eval (.tmp g)=qZ base [] (.tmp g):=by
     rw[Dl];show _=(mD base g).getD ar;cases hb:mD base g with
     |none=>have:=h2.1;rw[hb] at this;cases this
     |some v=>rw[hinv.bas g v rfl hb];rfl
    cases qY:mD C.lits g with
    |none=>rw[qY] at h3;cases h3
    |some b'=>
     rw[qY] at h2 h3
     by_cases o6:b'=b
     .subst o6;rw[oz.1 h2.2] at hval;have h9:=(Kq (a:=a0) hgd MX).2 hval;unfold cL at h9;rw[hgd] at h9;exact h9
     have:(b'==b)=false:=beq_false_of_ne o6;simp only[this] at h3;cases h3
 rw[List.range'_succ];refine L.go i _ o a0 W R ho hw (hY _ hex) fun v w hv=>hk v w hv _ ?_;cases hdd:o.dst with
 |none=>
  rw[hdd] at h5;cases d with
  |some _=>cases h5
  |none=>exact hF2
 |some x=>
  rw[hdd] at h5;cases d with
  |none=>cases h5
  |some y=>
   simp only[aF] at h5;have ZX:=iu h5.1.1;subst ZX;have hlt:x<n:=by have:=h5.1.2;unfold Nat.blt at this;exact Nat.le_of_ble_eq_true this
   exact(hF2.put x v h5.2).cons (put_eq a0 x v (by rw[hF.size];exact hlt))
section
variable{dz:List (kG × aj)}{i m:Nat}{W:ak}
theorem Yields.ex{o:cI}{ev E8:bI->aj}{w:ak}{R:aj->ak->Prop}(he:cu ev o=cu E8 o)(h:Yields P o E8 w R):Yields P o ev w R:=by
 unfold Yields at *;rw[he];exact h
theorem WJ(C:Cf)(d:Option kG){R:aj->ak->Prop}(hF:ik n a0 base)(hF2:ik n a0 dz)(hc:Ay P aM base C n dz i d=true)(hY:Yields P (opAt aM i) (qZ base []) W R)
  (hk:∀v w,R v w->∀a,ik n a (fo d v dz)->wpOps P aM Q (bP (i+1) m) a w):wpOps P aM Q (bP i (m+1)) a0 W:=
 IE Lb hF hF2 hc (fun ev he=>hY.ex he) hk
theorem Fy(C:Cf)(d:Option kG){f:FuncId}{args:Array aj}{Φ:Ending->ak->Prop}(hF:ik n a0 base)(hF2:ik n a0 dz)(hc:a_ P f args W Φ)(hk:∀e w,Φ e w->∃v,e=.returned v/\∀a,ik n a (fo d v dz)->wpOps P aM Q (bP (i+1) m) a w)(he:(Ay P aM base C n dz i d,look P #[] (cu (qZ base []) (opAt aM i)))=(true,some (.enter f args,[])):=by kernel_rfl):wpOps P aM Q (bP i (m+1)) a0 W:=by
 rw[g_] at he;exact WJ C d (R:=fun v w=>∀a,ik n a (fo d v dz)->wpOps P aM Q (bP (i+1) m) a w) hF hF2 he.1 (.call (mJ he.2 sM) hc fun e w h=>hk e w h) fun v w h=>h
def TP(P:aL)(r:Nat):iN Next->Option (Array aj × aZ × Nat × Nat × Option (Next × List Nat))
 |.new o k=>match o with
  |.cells cs t fr=>some (cs,t,fr.1,fr.2,look P #[] (k r))
  |_=>none
 |.program k=>TP P r (k P)
 |_=>none
theorem Pv{P:aL}{s:iN Next}{cs:Array aj}{t:aZ}{v:aj}{w:ak}(h:TP P w.heap.size s=some (cs,t,0,0,some (.value v,[]))):s.run P w=.ok (.value v) (w.alloc (.cells cs t)):=by
 induction s with
 |new o k _=>
  unfold TP at h;cases o with
  |cells cs' t' fr=>
   obtain⟨f1,f2⟩:=fr;simp only[gP,g_] at h;obtain⟨rfl,rfl,rfl,rfl,h5⟩:=h
   conv=>lhs;unfold Sem.run
   exact mJ h5 sM
  |_=>cases h
 |program k ih=>exact ih P h
 |_=>cases h
theorem jd(C:Cf)(d:Option kG)(vf:Nat->aj)(cs:Array aj)(t:aZ)(hF:ik n a0 base)(hF2:ik n a0 dz)(hk:∀B w a,W.heap.size<=B->Bw W w->w.heap[B]?=some (.cells cs t (0,0))->ik n a (fo d (vf B) dz)->wpOps P aM Q (bP (i+1) m) a w)(hc:Ay P aM base C n dz i d=true:=by kernel_rfl)(he:∀r,TP P r (cu (qZ base []) (opAt aM i))=some (cs,t,0,0,some (.value (vf r),[])):=by intro r;kernel_rfl):wpOps P aM Q (bP i (m+1)) a0 W:=
 WJ C d (R:=fun v w=>∃B,v=vf B/\W.heap.size<=B/\Bw W w/\w.heap[B]?=some (.cells cs t (0,0))) hF hF2 hc (.value (Pv (he _)) ⟨_,rfl,aJ _,cY,ax _ _⟩)
  fun v w ⟨B,e,h1,h2,h3⟩ a hl=>hk B w a h1 h2 h3 (e▸hl)
def stores(P:aL):iN Next->Option (List (Nat × Nat × aj))
 |.pure .skip=>some []
 |.program k=>stores P (k P)
 |.store _ a v k=>match a.spot,v with
  |some _,_=>none
  |_,.agg _=>none
  |_,.tuple _=>none
  |none,v=>match stores P k with
   |some l=>some ((a.block,a.off,v)::l)
   |none=>none
 |_=>none
def AB(cs:Array aj):List (Nat × Nat × aj)->Array aj
 |[]=>cs
 |p::l=>AB (cs.setIfInBounds p.2.1 p.2.2) l
structure SA(B:Nat)(w w':ak):Prop where
 os:w'.os=w.os
 tape:w'.tape=w.tape
 output:w'.output=w.output
 size:w'.heap.size=w.heap.size
 block:∀k,k≠B->w'.heap[k]?=w.heap[k]?
theorem SA.below{B m:Nat}{V w w':ak}(h:SA B w w')(ho:fX m V w)(hB:m<=B):fX m V w':=⟨h.os.trans ho.os,h.tape.trans ho.tape,h.output.trans ho.output,by rw[h.size];exact ho.size,fun k hk=>(h.block k oM).trans (ho.block k hk)⟩
theorem Na{P:aL}{B:Nat}{t:aZ}{s:iN Next}:∀ {l:List (Nat × Nat × aj)} {cs:Array aj} {w:ak},stores P s=some l->(∀p∈l,p.1=B/\p.2.1<cs.size)->w.heap[B]?=some (.cells cs t (0,0))->
  ∃w',s.run P w=.ok .skip w'/\w'.heap[B]?=some (.cells (AB cs l) t (0,0))/\SA B w w':=by
 induction s with
 |pure x=>intro l cs w h _ hB;cases x<;>cases h;exact⟨w,rfl,hB,rfl,rfl,rfl,rfl,fun _ _=>rfl⟩
 |program k ih=>intro l cs w h hl hB;exact ih P h hl hB
 |store m a v k ih=>
  intro l cs w h hl hB;unfold stores at h
  have main:∀v:aj,(∀x,v≠.agg x)->(∀x,v≠.tuple x)->a.spot=none->(match stores P k with|some l=>some ((a.block,a.off,v)::l)|none=>none)=some l->∃w',(Sem.store m a v k).run P w=.ok .skip w'/\w'.heap[B]?=some (.cells (AB cs l) t (0,0))/\SA B w w':=fun v n1 n2 hs h=>by
   cases hk:stores P k with
   |none=>rw[hk] at h;cases h
   |some l'=>
    rw[hk] at h;cases h;obtain⟨h1,h2⟩:=hl _ (dr ..);simp only[] at h1 h2;obtain⟨b,off,sp⟩:=a;simp only[] at h1 h2 hs;subst h1 hs;have hc:w.cell? ⟨b,off,none⟩=some cs[off]:=aK hB off _ (aO h2);obtain⟨w',g1,g2,g3⟩:=ih (cs:=cs.setIfInBounds off v) (w:=w.setCell ⟨b,off,none⟩ v) hk (fun p hp=>by simpa using hl p (bY _ hp)) (cX v hB);refine⟨w',?_,g2,g3.os,g3.tape,g3.output,by rw[g3.size];simp,fun k hk=>(g3.block k hk).trans (bp w ⟨b,off,none⟩ v k hk)⟩;rw[<-g1];have hf:w.frozen? ⟨b,off,none⟩=false:=cQ hB off;cases v<;>first|exact absurd rfl (n1 _)|exact absurd rfl (n2 _)|(conv=>lhs;unfold Sem.run;simp only[hc,hf,bE,if_false])
  cases hs:a.spot with
  |some _=>rw[hs] at h;cases h
  |none=>
   rw[hs] at h;cases v<;>first|(cases h;done)|exact main _ sM sM hs h
 |_=>intro l cs w h;cases h
theorem Yu(C:Cf){B:Nat}(cs cs':Array aj){t:aZ}(hB:W.heap[B]?=some (.cells cs t (0,0)))(l:List Nat)
  (he:(Ay P aM base C n dz i none,(stores P (cu (qZ base []) (opAt aM i))).map fun q=>(q.map (·.1),(q.all fun p=>Nat.blt p.2.1 cs.size),AB cs q))=(true,some (l.map fun _=>B,true,cs'))) :
  Ay P aM base C n dz i none=true/\∀w,w.heap[B]?=some (.cells cs t (0,0))->∃w',(cu (qZ base []) (opAt aM i)).run P w=.ok .skip w'/\w'.heap[B]?=some (.cells cs' t (0,0))/\SA B w w':=by
 rw[g_] at he;refine⟨he.1,fun w hw=>?_⟩;cases hs:stores P (cu (qZ base []) (opAt aM i)) with
 |none=>rw[hs] at he;cases he.2
 |some q=>
  rw[hs] at he;have h2:=he.2;simp only[Option.map_some,gP,g_] at h2;obtain⟨h3,h4,h5⟩:=h2;subst h5;refine Na hs (fun p hp=>⟨?_,?_⟩) hw
  .have:p.1∈q.map (·.1):=dm.2 ⟨p,hp,rfl⟩;rw[h3] at this;obtain⟨_,_,e⟩:=dm.1 this;exact e.symm
  have:=bf.1 h4 p hp;unfold Nat.blt at this;exact Nat.le_of_ble_eq_true this
theorem nT(C:Cf){B:Nat}(cs cs':Array aj){t:aZ}(l:List Nat)(hF:ik n a0 base)(hF2:ik n a0 dz)(hB:W.heap[B]?=some (.cells cs t (0,0)))(hk:∀w a,SA B W w->w.heap[B]?=some (.cells cs' t (0,0))->ik n a dz->wpOps P aM Q (bP (i+1) m) a w)(he:(Ay P aM base C n dz i none,(stores P (cu (qZ base []) (opAt aM i))).map fun q=>(q.map (·.1),(q.all fun p=>Nat.blt p.2.1 cs.size),AB cs q))=(true,some (l.map fun _=>B,true,cs')):=by kernel_rfl):wpOps P aM Q (bP i (m+1)) a0 W:=by
 obtain⟨h1,h2⟩:=Yu C cs cs' hB l he;obtain⟨w',g1,g2,g3⟩:=h2 W hB;exact WJ C none (R:=fun v w=>SA B W w/\w.heap[B]?=some (.cells cs' t (0,0))) hF hF2 h1 (.skip g1 ⟨g3,g2⟩) fun v w h a hl=>hk w a h.1 h.2 hl
end
end
end Go.Lag
