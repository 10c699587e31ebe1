/- The tape: what a program of the model's own monad yields hangs on the  .. -/
import Derived.DyingOn
import Derived.Conc.Beside
set_option linter.all false
set_option maxHeartbeats 0
set_option maxRecDepth 1000000
open Array renaming mem_append -> H6,getElem?_setIfInBounds_ne -> aG,getElem?_eq_getElem -> aQ,getElem?_eq_some_iff -> ah,getElem?_setIfInBounds -> bK,getElem?_setIfInBounds_self_of_lt -> bn,append_empty -> en,empty_append -> fD,getElem?_eq_none -> fS,getElem?_map -> km,getElem?_push -> lM,getElem?_modify -> pX
open Bool renaming and_eq_true -> aJ,false_eq_true -> bG,not_true -> vH
open Classical renaming byContradiction -> fG
open Go renaming findLabel -> A1,choose -> AV,resolve -> B6,TypeId -> a7,Goroutine -> aH,Program -> aN,Value -> aj,World -> ak,Frame -> b_,Addr -> cX,Question -> dQ,FuncId -> d_,runtimePanic -> eJ,stepG -> fE,callFunc -> fT,Event -> gO,Sem -> iT,zeroValue -> je,underlying -> ji,typeInfo -> ly,communicate -> m_,unwind -> mg,CommCase -> nj,step -> oD,unsupported -> rD,doReturn -> uL
open Go.Builtin renaming min_ -> Ci,max_ -> Cj,lenOf -> DL,firstCells -> eM,zeroCells -> f_,append_ -> kE,mayShare -> ql
open Go.Conc renaming mem_ofEvents -> Cg,runT_crowd_go -> DG,solo_eq_crowd -> nP,crowd -> rE,solo -> xL
open Go.Frame renaming enter -> eG
open Go.GStep renaming after -> Ce
open Go.Instr renaming mapUpdate -> A3,findKey -> DK,indexAt -> fp,findAsking -> jC,loadAt -> nV,checkKey -> nW,index -> ni
open Go.MemAct renaming ofEvent -> gq
open Go.MemOp renaming ofEvents -> iJ
open Go.Op renaming equalIn -> uf
open Go.Sem renaming runT -> dK
open Go.World renaming setCell -> kz
open Go.stepG renaming exec -> cF,apply -> eC,oper -> fB
open List renaming getElem_mem -> bQ,mem_cons_of_mem -> bT,length_pos_iff -> cN,mem_cons -> cj,mem_cons_self -> dF,all_cons -> dX,mem_map -> dn,getElem?_eq_getElem -> eQ,mem_toArray -> fe,not_mem_nil -> gX,mem_filter -> kD
open Nat renaming le_trans -> aF,le_refl -> aO,lt_of_lt_of_le -> bw,zero_add -> dh,eq_zero_or_pos -> gp,add_assoc -> ru
open Option renaming map_some -> dM,map_eq_some_iff -> eP
open Option.some renaming inj -> bp,injEq -> ia
open Pure renaming pure -> eZ
open Std.Legacy.Range renaming forIn_eq_forIn_range' -> rF
namespace Go
def oN{p:Prop}(h:p:=by omega):p:=h
def kN{p:Prop}(h:p:=by kernel_rfl):p:=h
def sN{p:Prop}(h:p:=by simp):p:=h
def dN{p:Prop}(h:p:=by decide):p:=h
def sP{p:Prop}(h:p:=by simp;omega):p:=h
end Go
namespace Go.Lag
def dH(w:ak)(I:Nat->dQ->Nat)(d:Nat):World:={ w with tape:=I,drawn:=d }
def Agree(n:Nat)(I:Nat->dQ->Nat)(d:Nat)(I':Nat->dQ->Nat)(d':Nat):Prop:=∀i,i<n->I (d+i)=I' (d'+i)
def Agree.le{n m:Nat}{I I':Nat->dQ->Nat}{d d':Nat}(h:Agree n I d I' d')(hm:m<=n):Agree m I d I' d':=fun i hi=>h i (bw hi hm)
@[simp] theorem oW (w:ak) (I:Nat->dQ->Nat) (d:Nat):(dH w I d).heap=w.heap:=rfl
@[simp] theorem aaN (w:ak) (I:Nat->dQ->Nat) (d:Nat):(dH w I d).os=w.os:=rfl
@[simp] theorem zM (w:ak) (I:Nat->dQ->Nat) (d:Nat):(dH w I d).tape=I:=rfl
@[simp] theorem qq (w:ak) (I:Nat->dQ->Nat) (d:Nat):(dH w I d).drawn=d:=rfl
def qZ(w:ak)(I:Nat->dQ->Nat)(d:Nat)(a:cX):(dH w I d).cell? a=w.cell? a:=rfl
def yM(w:ak)(I:Nat->dQ->Nat)(d:Nat)(a:cX):(dH w I d).frozen? a=w.frozen? a:=rfl
def Rj(w:ak)(I:Nat->dQ->Nat)(d:Nat)(r:Nat):(dH w I d).shape? r=w.shape? r:=rfl
def C6(p:aN)(w:ak)(I:Nat->dQ->Nat)(d:Nat)(a:cX)(b:Bool):(dH w I d).farLoad p a b=w.farLoad p a b:=rfl
def T3(p:aN)(w:ak)(I:Nat->dQ->Nat)(d:Nat)(x:cX)(u:a7)(k:cX)(b:Bool):(dH w I d).seen p x u k b=w.seen p x u k b:=rfl
def GD(p:aN)(w:ak)(I:Nat->dQ->Nat)(d:Nat)(x:cX)(u:a7)(k:cX)(v:aj)(b:Bool) :
  (dH w I d).viewStore p x u k v b=(w.viewStore p x u k v b).map fun(w',l)=>(dH w' I d,l):=by
 unfold World.viewStore;simp only[T3];generalize w.seen p x u k b=s;cases s with
 |error e=>by_cases h:tight p p.depth u<;>simp only[h]<;>rfl
 |ok s=>
  obtain⟨c,e,fz,first,like,cells⟩:=s
  by_cases h:tight p p.depth u
  .simp only[h,Bind.bind,Except.bind,eZ,Except.pure];simp only[vH,bG,if_false];cases v.bytes? with
   |none=>rfl
   |some bytes=>
    simp only[];split
    .rfl
    generalize (List.foldlM _ c cells:Except String (Array aj))=r;cases r<;>rfl
  simp only[h];rfl
def Ai(p:aN)(w:ak)(I:Nat->dQ->Nat)(d:Nat)(a:cX)(v:aj)(b:Bool) :
  (dH w I d).farStore p a v b=(w.farStore p a v b).map fun(w',l)=>(dH w' I d,l):=by
 unfold World.farStore;simp only[oW];split
 .rw[GD];generalize w.viewStore p _ _ a v b=r;cases r<;>rfl
 rfl
def Be:Builtin->Bool
 |.append|.cap|.clear|.close|.copy|.delete|.len|.max|.min|.recover|.panic=>true
 |_=>false
def JJ(c:Call):Bool:=
 match c.callee with
 |.builtin b=>Be b
 |_=>true
def Bd(o:Oper):Bool:=
 match o.op with
 |.call c|.go c|.defer c=>JJ c
 |_=>true
def eb:Code->Bool
 |.region _ aP _=>aP.all Bd
 |.seq a b=>eb a&&eb b
 |.cond _ a b=>eb a&&eb b
 |.block _ c=>eb c
 |.loop c=>eb c
 |.rangeFunc _ _ a b=>eb a&&eb b
 |.scope c=>eb c
 |_=>true
def LV:Target->Bool
 |.builtin b ..=>Be b
 |.coroexit _=>false
 |_=>true
def pZ(d:Deferred):Bool:=LV d.target
def yD(l:Loop):Bool:=(l.pending.all eb)&&eb l.assign&&eb l.body
def gb:Obj->Bool
 |.loop l=>yD l
 |.deferred (some ds)=>ds.all pZ
 |.coro _=>false
 |.finalizers ..=>false
 |_=>true
def KM(c:Sys):Prop:=∀os,∃r,Kernel.perform c os=.done (r,os)/\r≠.wouldBlock
def Gm{α:Type}(s:iT α):Prop:=∃why,s=.halt (.stuck why)
def Calm(P:aN){α:Type}(Q:α->Prop):iT α->Prop
 |.pure a=>Q a
 |.load _ _ k=>∀v,Calm P Q (k v)
 |.store _ _ _ k=>Calm P Q k
 |.new o k=>gb o=true/\∀r,Calm P Q (k r)
 |.shape _ k=>∀s,Calm P Q (k s)
 |.freeze _ _ k=>Calm P Q k
 |.frozen _ k=>∀b,Calm P Q (k b)
 |.getObj _ k=>(∀o,gb o=true->Calm P Q (k o))/\(Gm (k (.coro none))\/(Calm P Q (k (.coro none))/\∀o,gb o=false->k o=k (.coro none)))
 |.setObj _ o k=>gb o=true/\Calm P Q k
 |.choose _ k=>∀n,Calm P Q (k n)
 |.sys c k=>KM c/\∀r,Calm P Q (k r)
 |.program k=>Calm P Q (k P)
 |.mark m k=>(m=.noRoom\/∃f,m=.extern f)/\Calm P Q k
 |.halt h=>h≠.blocked/\h≠.waiting
def Gone(P:aN){α:Type}(Q:α->Prop)(f:Obj->iT α):Prop:=Gm (f (.coro none))\/(Calm P Q (f (.coro none))/\∀o,gb o=false->f o=f (.coro none))
def nz{P:aN}{α:Type}{Q:α->Prop}{f:Obj->iT α}{w:String}(h:f (.coro none)=.halt (.stuck w)):Gone P Q f:=.inl ⟨w,h⟩
def qV{P:aN}{α:Type}{Q:α->Prop}{f:Obj->iT α}(h:Calm P Q (f (.coro none)))(h2:∀o,gb o=false->f o=f (.coro none)):Gone P Q f:=.inr ⟨h,h2⟩
abbrev Any{α:Type}:α->Prop:=fun _=>True
section
variable{P:aN}{α β:Type}{Q:β->Prop}
theorem eW{R:α->Prop}{s:iT α}{f:α->iT β}(hs:Calm P R s)(hf:∀a,R a->Calm P Q (f a)):Calm P Q (s >>= f):=by
 show Calm P Q (s.bind f)
 induction s with
 |pure a=>exact hf a hs
 |load m a k ih=>exact fun v=>ih v (hs v)
 |store m a v k ih=>exact ih hs
 |new o k ih=>exact⟨hs.1,fun r=>ih r (hs.2 r)⟩
 |shape r k ih=>exact fun s=>ih s (hs s)
 |freeze a n k ih=>exact ih hs
 |frozen a k ih=>exact fun b=>ih b (hs b)
 |getObj r k ih=>
  refine⟨fun o ho=>ih o (hs.1 o ho),hs.2.imp (fun⟨why,hw⟩=>⟨why,by show(k (.coro none)).bind f=_;rw[hw];rfl⟩) fun⟨h1,h2⟩=>⟨ih _ h1,fun o ho=>?_⟩⟩;show(k o).bind f=(k (.coro none)).bind f;rw[h2 o ho]
 |setObj r o k ih=>exact⟨hs.1,ih hs.2⟩
 |choose q k ih=>exact fun n=>ih n (hs n)
 |sys c k ih=>exact⟨hs.1,fun r=>ih r (hs.2 r)⟩
 |program k ih=>exact ih P hs
 |mark m k ih=>exact⟨hs.1,ih hs.2⟩
 |halt h=>exact hs
theorem aU{s:iT α}{f:α->iT β}(hs:Calm P Any s)(hf:∀a,Calm P Q (f a)):Calm P Q (s >>= f):=eW hs fun a _=>hf a
theorem cS{a:α}:Calm P Any (eZ a:iT α):=trivial
theorem uE{a:α}:Calm P Any (Sem.pure a:iT α):=trivial
theorem FV{a:β}(h:Q a):Calm P Q (eZ a:iT β):=h
theorem wG{s:iT α}{f:α->β}(hs:Calm P Any s):Calm P Any (Functor.map f s):=eW (Q:=Any) hs fun _ _=>trivial
theorem bL{w:String}:Calm P Q (stuck w:iT β):=⟨sN,sN⟩
theorem dU{u:Unsupported}:Calm P Q (rD u:iT β):=⟨sN,sN⟩
theorem kK{v:aj}:Calm P Q (goPanic v:iT β):=⟨sN,sN⟩
theorem uG{w:String}:Calm P Q (fatal w:iT β):=⟨sN,sN⟩
theorem q7{w:String}:Calm P Q (throw w:iT β):=⟨sN,sN⟩
theorem t_{a:cX}{m:Mode}:Calm P Any (load a m):=fun _=>trivial
theorem q9{a:cX}{v:aj}{m:Mode}:Calm P Any (store a v m):=trivial
theorem lU{o:Obj}(h:gb o=true):Calm P Any (newObj o):=⟨h,fun _=>trivial⟩
theorem uD{r:Nat}:Calm P Any (shape r):=fun _=>trivial
theorem r7{a:cX}{n:Nat}:Calm P Any (freeze a n):=trivial
theorem rZ{a:cX}:Calm P Any (frozen a):=fun _=>trivial
theorem kx{r:Nat}{f:Obj->iT β}(h:∀o,gb o=true->Calm P Q (f o))(hk:Gone P Q f):Calm P Q (getObj r >>= f):=⟨h,hk⟩
theorem jd{r:Nat}{o:Obj}(h:gb o=true):Calm P Any (setObj r o):=⟨h,trivial⟩
theorem lV{q:dQ}:Calm P Any (AV q):=fun _=>trivial
theorem jH:Calm P Any program:=trivial
theorem nM{n:Nat}:Calm P Any (askRoom n):=by
 unfold askRoom;split
 .exact⟨.inl rfl,trivial⟩
 trivial
theorem pj:Calm P Any (mark .noRoom):=⟨.inl rfl,trivial⟩
theorem FX{f:α->iT β}(hf:∀a,Calm P Any (f a))(l:List α):Calm P Any (l.mapM f):=by
 rw[<-List.mapM'_eq_mapM]
 induction l with
 |nil=>exact cS
 |cons a l ih=>exact aU (hf a) fun _=>aU ih fun _=>cS
theorem qx{f:α->iT β}(hf:∀a,Calm P Any (f a))(l:Array α):Calm P Any (l.mapM f):=by
 rw[Array.mapM_eq_mapM_toList];exact wG (FX hf _)
theorem Dd{γ:Type}{f:β->γ->iT β}(hf:∀a b,Calm P Any (f a b))(b:β)(l:List γ):Calm P Any (l.foldlM f b):=by
 induction l generalizing b with
 |nil=>exact cS
 |cons a l ih=>exact aU (hf b a) fun _=>ih _
theorem jD{γ:Type}{f:γ->β->iT (ForInStep β)}(hf:∀a b,Calm P Any (f a b))(l:List γ)(b:β):Calm P Any (forIn l b f):=by
 induction l generalizing b with
 |nil=>exact cS
 |cons a l ih=>
  rw[List.forIn_cons];refine aU (hf a b) fun r=>?_;cases r with
  |done b=>exact cS
  |yield b=>exact ih b
theorem mf{γ:Type}{f:γ->β->iT (ForInStep β)}(hf:∀a b,Calm P Any (f a b))(l:Array γ)(b:β):Calm P Any (forIn l b f):=by
 rw[<-Array.forIn_toList];exact jD hf _ _
theorem l_{f:Nat->β->iT (ForInStep β)}(hf:∀a b,Calm P Any (f a b))(l:Std.Legacy.Range)(b:β):Calm P Any (forIn l b f):=by
 rw[rF];exact jD hf _ _
end
section
variable{P:aN}
class K (P:aN) {α:Type} (s:iT α):Prop where
 c:Calm P Any s
theorem bR{p:Prop}(h:p:=by
  repeat' (first|exact K.c|with_reducible (first|exact cS|exact uE|exact bL|exact dU|exact kK|exact uG|exact q7|exact t_|exact q9|exact uD|exact r7|exact rZ|exact lV|exact jH|exact nM|exact pj|exact(lU rfl)|exact(jd rfl)|assumption)|exact ih ..|(with_reducible apply nz;exact rfl)|(with_reducible refine qV ?_ (fun o ho=>by cases o<;>first|rfl|(revert ho;simp[gb];done)))|(refine kx (fun _ _=>?_) ?_)|(refine aU ?_ (fun _=>?_))|(refine wG ?_)|(refine qx (fun _=>?_) _)|(refine jD (fun _ _=>?_) _ _)|(refine mf (fun _ _=>?_) _ _)|(refine l_ (fun _ _=>?_) _ _)|split|intro _|dsimp only|trivial)):p:=h
instance (a):K P (viewAt a):=⟨by unfold viewAt;exact bR⟩
instance (a):K P (numberAt a):=⟨by unfold numberAt;exact bR⟩
instance (a):K P (cellsIn a):=⟨by unfold cellsIn;exact bR⟩
instance (a b):K P (asNumber a b):=⟨by unfold asNumber;exact bR⟩
instance (a):K P (behindNumber a):=⟨by unfold behindNumber;exact bR⟩
instance (a):K P (backFromNumber a):=⟨by unfold backFromNumber;exact bR⟩
instance (a):K P (noView a):=⟨by unfold noView;exact bR⟩
instance (a):K P (markStringish a):=⟨by unfold markStringish;exact bR⟩
instance (a):K P (stringish a):=⟨by unfold stringish;exact bR⟩
instance (a b):K P (mayBeOne a b):=⟨by unfold mayBeOne;exact bR⟩
instance (a b):K P (sameAddr a b):=⟨by unfold sameAddr;exact bR⟩
instance (a b):K P (samePointer a b):=⟨by unfold samePointer;exact bR⟩
instance (a):K P (ly a):=⟨by unfold ly;exact bR⟩
theorem jL(x0):Calm P Any (ly x0):=K.c
instance (a):K P (ji a):=⟨by unfold ji;exact bR⟩
theorem ie(x0):Calm P Any (ji x0):=K.c
instance (a):K P (cutType a):=⟨by unfold cutType;exact bR⟩
instance (a):K P (globalAddr a):=⟨by unfold globalAddr;exact bR⟩
instance (a):K P (typeStr a):=⟨by unfold typeStr;exact bR⟩
theorem uC(x0):Calm P Any (typeStr x0):=K.c
instance (a):K P (je a):=⟨by unfold je;exact bR⟩
theorem nL(x0):Calm P Any (je x0):=K.c
instance (a):K P (sizeOf a):=⟨by unfold sizeOf;exact bR⟩
theorem Nb(x0):Calm P Any (sizeOf x0):=K.c
instance (a):K P (isAgg a):=⟨by unfold isAgg;exact bR⟩
theorem yR(a i n acc):Calm P Any (loadCellsFrom a i n acc):=by
 induction n generalizing i acc with
 |zero=>exact cS
 |succ n ih=>exact aU t_ fun _=>ih _ _
instance (a i n acc):K P (loadCellsFrom a i n acc):=⟨yR a i n acc⟩
instance (a b):K P (loadCells a b):=⟨by unfold loadCells;exact bR⟩
theorem uZ(a vs i):Calm P Any (storeCells a vs i):=by
 induction vs generalizing i with
 |nil=>exact cS
 |cons v vs ih=>exact aU q9 fun _=>ih _
instance (a vs i):K P (storeCells a vs i):=⟨uZ a vs i⟩
instance (a b):K P (loadVar a b):=⟨by unfold loadVar;exact bR⟩
theorem uF(x0 x1):Calm P Any (loadVar x0 x1):=K.c
instance (a b c):K P (storeVar a b c):=⟨by unfold storeVar;exact bR⟩
instance (a b):K P (newRow a b):=⟨by unfold newRow;exact bR⟩
theorem Nd(x0 x1):Calm P Any (newRow x0 x1):=K.c
instance (a b):K P (newVar a b):=⟨by unfold newVar;exact bR⟩
theorem Nc(x0 x1):Calm P Any (newVar x0 x1):=K.c
instance (a):K P (elemOf a):=⟨by unfold elemOf;exact bR⟩
theorem Nh(x0):Calm P Any (elemOf x0):=K.c
instance (a b c):K P (part a b c):=⟨by unfold part;exact bR⟩
theorem I0(x0 x1 x2):Calm P Any (part x0 x1 x2):=K.c
instance {α:Type} (m):K P (panicString m:iT α):=⟨by unfold panicString;exact bR⟩
instance {α:Type} (e):K P (eJ e:iT α):=⟨by unfold eJ;exact bR⟩
theorem iM{α:Type}(e):Calm P Any (eJ e:iT α):=K.c
instance {α:Type} (k x y c):K P (boundsPanic k x y c:iT α):=⟨by unfold boundsPanic;exact bR⟩
instance (a):K P (asIntOf a):=⟨by unfold asIntOf;exact bR⟩
instance (a):K P (asInt a):=⟨by unfold asInt;exact bR⟩
theorem rb(x0):Calm P Any (asInt x0):=K.c
instance (a):K P (asBool a):=⟨by unfold asBool;exact bR⟩
theorem Ni(x0):Calm P Any (asBool x0):=K.c
instance (a):K P (asString a):=⟨by unfold asString;exact bR⟩
theorem lj(x0):Calm P Any (asString x0):=K.c
instance (a):K P (asAgg a):=⟨by unfold asAgg;exact bR⟩
theorem uH(x0):Calm P Any (asAgg x0):=K.c
instance (a):K P (asAddr a):=⟨by unfold asAddr;exact bR⟩
theorem nB(x0):Calm P Any (asAddr x0):=K.c
instance (a):K P (byteOf a):=⟨by unfold byteOf;exact bR⟩
instance (a b c):K P (partAt a b c):=⟨by unfold partAt;exact bR⟩
instance (a b):K P (fieldPlace a b):=⟨by unfold fieldPlace;exact bR⟩
theorem Dx(x0 x1):Calm P Any (fieldPlace x0 x1):=K.c
instance (a b c):K P (variablesAt a b c):=⟨by unfold variablesAt;exact bR⟩
instance (a b c):K P (intVariablesAt a b c):=⟨by unfold intVariablesAt;exact bR⟩
instance (a b):K P (byteVariablesAt a b):=⟨by unfold byteVariablesAt;exact bR⟩
theorem FY(a acc n):Calm P Any (loadBytes a acc n):=by
 induction n generalizing acc a with
 |zero=>unfold loadBytes;exact cS
 |succ n ih=>
  unfold loadBytes
  all_goals exact bR
instance (a acc n):K P (loadBytes a acc n):=⟨FY a acc n⟩
instance (a b):K P (storeBytes a b):=⟨by unfold storeBytes;exact bR⟩
instance (a):K P (Instr.sureAddr a):=⟨by unfold Instr.sureAddr;exact bR⟩
instance (a b):K P (nV a b):=⟨by unfold nV;exact bR⟩
theorem AG(x0 x1):Calm P Any (nV x0 x1):=K.c
instance (a b c):K P (Instr.storeAt a b c):=⟨by unfold Instr.storeAt;exact bR⟩
theorem yS(x0 x1 x2):Calm P Any (Instr.storeAt x0 x1 x2):=K.c
instance (a b c):K P (Instr.fieldAt a b c):=⟨by unfold Instr.fieldAt;exact bR⟩
theorem yX(x0 x1 x2):Calm P Any (Instr.fieldAt x0 x1 x2):=K.c
instance (a b c):K P (fp a b c):=⟨by unfold fp;exact bR⟩
theorem yV(x0 x1 x2):Calm P Any (fp x0 x1 x2):=K.c
instance (a b c):K P (Instr.alloc a b c):=⟨by unfold Instr.alloc;exact bR⟩
theorem BP(x0 x1 x2):Calm P Any (Instr.alloc x0 x1 x2):=K.c
instance (a b):K P (Instr.box a b):=⟨by unfold Instr.box;exact bR⟩
theorem F2(x0 x1):Calm P Any (Instr.box x0 x1):=K.c
instance (a b):K P (Instr.build a b):=⟨by unfold Instr.build;exact bR⟩
theorem BO(x0 x1):Calm P Any (Instr.build x0 x1):=K.c
instance (a b c):K P (Instr.buildSlice a b c):=⟨by unfold Instr.buildSlice;exact bR⟩
theorem vz(x0 x1 x2):Calm P Any (Instr.buildSlice x0 x1 x2):=K.c
instance (a):K P (Instr.entry a):=⟨by unfold Instr.entry;exact bR⟩
theorem BN(x0):Calm P Any (Instr.entry x0):=K.c
instance (a b):K P (Instr.extract a b):=⟨by unfold Instr.extract;exact bR⟩
theorem yY(x0 x1):Calm P Any (Instr.extract x0 x1):=K.c
instance (a b c):K P (Instr.field a b c):=⟨by unfold Instr.field;exact bR⟩
theorem BM(x0 x1 x2):Calm P Any (Instr.field x0 x1 x2):=K.c
instance (a b c):K P (ni a b c):=⟨by unfold ni;exact bR⟩
theorem BL(x0 x1 x2):Calm P Any (ni x0 x1 x2):=K.c
instance (a b):K P (Op.twoPlaces a b):=⟨by unfold Op.twoPlaces;exact bR⟩
instance (a b c):K P (Op.addrSub a b c):=⟨by unfold Op.addrSub;exact bR⟩
instance (a b c):K P (Op.addrCmp a b c):=⟨by unfold Op.addrCmp;exact bR⟩
instance (a b c):K P (Op.addrMod a b c):=⟨by unfold Op.addrMod;exact bR⟩
instance (a b c d):K P (Op.floatArith a b c d):=⟨by unfold Op.floatArith;exact bR⟩
instance (a b c d):K P (Op.floatCmp a b c d):=⟨by unfold Op.floatCmp;exact bR⟩
instance (a b c d):K P (Op.intArith a b c d):=⟨by unfold Op.intArith;exact bR⟩
instance (a b c d):K P (Op.intBits a b c d):=⟨by unfold Op.intBits;exact bR⟩
instance (a b c):K P (Op.intCmp a b c):=⟨by unfold Op.intCmp;exact bR⟩
instance (a b c d):K P (Op.intDiv a b c d):=⟨by unfold Op.intDiv;exact bR⟩
instance (a b c d e):K P (Op.shift a b c d e):=⟨by unfold Op.shift;exact bR⟩
instance (a b c):K P (Op.stringOp a b c):=⟨by unfold Op.stringOp;exact bR⟩
instance (a b c):K P (Conv.floatToFloat a b c):=⟨by unfold Conv.floatToFloat;exact bR⟩
instance (a b c):K P (Conv.floatToInt a b c):=⟨by unfold Conv.floatToInt;exact bR⟩
instance (a b):K P (Conv.intToFloat a b):=⟨by unfold Conv.intToFloat;exact bR⟩
instance (a b):K P (Conv.intToInt a b):=⟨by unfold Conv.intToInt;exact bR⟩
instance (a):K P (Conv.intToString a):=⟨by unfold Conv.intToString;exact bR⟩
instance (a b c d):K P (Conv.complexToComplex a b c d):=⟨by unfold Conv.complexToComplex;exact bR⟩
instance (a):K P (Conv.bytesToString a):=⟨by unfold Conv.bytesToString;exact bR⟩
instance (a):K P (Conv.runesToString a):=⟨by unfold Conv.runesToString;exact bR⟩
instance (a b):K P (Conv.stringToBytes a b):=⟨by unfold Conv.stringToBytes;exact bR⟩
instance (a b):K P (Conv.stringToRunes a b):=⟨by unfold Conv.stringToRunes;exact bR⟩
instance (a):K P (Conv.seenAt a):=⟨by unfold Conv.seenAt;exact bR⟩
instance (a b c):K P (Conv.unsafePointer a b c):=⟨by unfold Conv.unsafePointer;exact bR⟩
instance (a b c d):K P (Op.Complex.arith a b c d):=⟨by unfold Op.Complex.arith;exact bR⟩
instance (a b c d):K P (Op.Complex.cmp a b c d):=⟨by unfold Op.Complex.cmp;exact bR⟩
instance (a b c):K P (Op.Complex.conv a b c):=⟨by unfold Op.Complex.conv;exact bR⟩
instance (a b):K P (Op.Complex.add a b):=⟨by unfold Op.Complex.add;exact bR⟩
instance (a b):K P (Op.Complex.sub a b):=⟨by unfold Op.Complex.sub;exact bR⟩
instance (a b):K P (Op.Complex.mul a b):=⟨by unfold Op.Complex.mul;exact bR⟩
instance (a b):K P (Op.Complex.quo a b):=⟨by unfold Op.Complex.quo;exact bR⟩
instance (a b c d):K P (Op.Complex.product a b c d):=⟨by unfold Op.Complex.product;exact bR⟩
instance (a b c d e):K P (Op.Complex.corrected a b c d e):=⟨by unfold Op.Complex.corrected;exact bR⟩
theorem sQ(a b c d):Calm P Any (Op.Complex.quotient a b c d):=by
 unfold Op.Complex.quotient;refine aU (K.c) fun t=>?_
 extract_lets jp
 have hjp:∀x,Calm P Any (jp x):=by
  rintro⟨e,f⟩;show Calm P Any (Op.Complex.cmp BinOp.eql FloatKind.f64 c 0 >>= _);refine aU (K.c) fun t=>aU (K.c) fun u=>?_
  extract_lets zero
  split
  .exact cS
  split
  .exact aU (K.c) fun _=>aU (K.c) fun _=>cS
  split
  .exact K.c
  split
  .exact K.c
  exact cS
 clear_value jp
 cases t
 .simp only[bG,if_false];exact aU (K.c) fun _=>aU (K.c) fun _=>aU (K.c) fun _=>aU (K.c) fun _=>aU (K.c) fun _=>aU (K.c) fun _=>aU (K.c) fun _=>aU (K.c) fun _=>aU (K.c) fun _=>aU cS fun _=>hjp _
 simp only[if_true];exact aU (K.c) fun _=>aU (K.c) fun _=>aU (K.c) fun _=>aU (K.c) fun _=>aU (K.c) fun _=>aU (K.c) fun _=>aU (K.c) fun _=>aU (K.c) fun _=>aU (K.c) fun _=>aU cS fun _=>hjp _
instance (a b c d):K P (Op.Complex.quotient a b c d):=⟨sQ a b c d⟩
instance (a b c d e i):K P (Op.complexOp a b c d e i):=⟨by unfold Op.complexOp;exact bR⟩
instance (a b):K P (Op.unary a b):=⟨by unfold Op.unary;exact bR⟩
theorem Ho(x0 x1):Calm P Any (Op.unary x0 x1):=K.c
theorem Dz(n t x y):Calm P Any (uf n t x y):=by
 induction n generalizing t x y with
 |zero=>unfold uf;exact dU
 |succ n ih=>
  unfold uf
  all_goals exact bR
instance (n t x y):K P (uf n t x y):=⟨Dz n t x y⟩
instance (a b c):K P (Op.equal a b c):=⟨by unfold Op.equal;exact bR⟩
theorem AB(n t x y):Calm P Any (Op.eqGuardIn n t x y):=by
 induction n generalizing t x y with
 |zero=>unfold Op.eqGuardIn;exact dU
 |succ n ih=>
  unfold Op.eqGuardIn
  all_goals exact bR
instance (n t x y):K P (Op.eqGuardIn n t x y):=⟨AB n t x y⟩
theorem xI(e n t v):Calm P Any (nW e n t v):=by
 induction n generalizing t v with
 |zero=>unfold nW;exact dU
 |succ n ih=>
  unfold nW
  all_goals exact bR
instance (e n t v):K P (nW e n t v):=⟨xI e n t v⟩
theorem vx(t k es i):Calm P Any (jC t k es i):=by
 induction es generalizing i with
 |nil=>unfold jC;exact cS
 |cons e es ih=>
  unfold jC
  all_goals exact bR
instance (t k es i):K P (jC t k es i):=⟨vx t k es i⟩
instance (a b c):K P (DK a b c):=⟨by unfold DK;exact bR⟩
instance (a b c d):K P (Instr.lookup a b c d):=⟨by unfold Instr.lookup;exact bR⟩
theorem AE(x0 x1 x2 x3):Calm P Any (Instr.lookup x0 x1 x2 x3):=K.c
instance (a b):K P (Instr.makeChan a b):=⟨by unfold Instr.makeChan;exact bR⟩
theorem xH(x0 x1):Calm P Any (Instr.makeChan x0 x1):=K.c
instance (a b c):K P (Instr.makeFunc a b c):=⟨by unfold Instr.makeFunc;exact bR⟩
theorem xG(x0 x1 x2):Calm P Any (Instr.makeFunc x0 x1 x2):=K.c
instance (a b):K P (Instr.makeInterface a b):=⟨by unfold Instr.makeInterface;exact bR⟩
theorem sS(x0 x1):Calm P Any (Instr.makeInterface x0 x1):=K.c
instance (a b):K P (Instr.makeMap a b):=⟨by unfold Instr.makeMap;exact bR⟩
theorem yU(x0 x1):Calm P Any (Instr.makeMap x0 x1):=K.c
instance (a b c):K P (Instr.makeSlice a b c):=⟨by unfold Instr.makeSlice;exact bR⟩
theorem wI(x0 x1 x2):Calm P Any (Instr.makeSlice x0 x1 x2):=K.c
instance (a b):K P (Instr.keyThatStays a b):=⟨by unfold Instr.keyThatStays;exact bR⟩
instance (a b c d):K P (A3 a b c d):=⟨by unfold A3;exact bR⟩
theorem pw(x0 x1 x2 x3):Calm P Any (A3 x0 x1 x2 x3):=K.c
instance (a b c):K P (Instr.mapEntry a b c):=⟨by unfold Instr.mapEntry;exact bR⟩
theorem xF(x0 x1 x2):Calm P Any (Instr.mapEntry x0 x1 x2):=K.c
instance (a b c d):K P (Instr.entryStore a b c d):=⟨by unfold Instr.entryStore;exact bR⟩
theorem vy(x0 x1 x2 x3):Calm P Any (Instr.entryStore x0 x1 x2 x3):=K.c
instance (a b c):K P (Instr.next a b c):=⟨by unfold Instr.next;exact bR⟩
theorem DC(x0 x1 x2):Calm P Any (Instr.next x0 x1 x2):=K.c
instance (a):K P (Instr.waits a):=⟨by unfold Instr.waits;exact bR⟩
theorem BJ(x0):Calm P Any (Instr.waits x0):=K.c
instance (a):K P (Instr.ready a):=⟨by unfold Instr.ready;exact bR⟩
theorem BK(x0):Calm P Any (Instr.ready x0):=K.c
instance (a b c):K P (Instr.sliceBound a b c):=⟨by unfold Instr.sliceBound;exact bR⟩
instance (a b c d e i):K P (Instr.sliceBounds a b c d e i):=⟨by unfold Instr.sliceBounds;exact bR⟩
instance (a b c d e):K P (Instr.slice a b c d e):=⟨by unfold Instr.slice;exact bR⟩
instance (a b c d e):K P (Instr.sliceAt a b c d e):=⟨by unfold Instr.sliceAt;exact bR⟩
theorem yT(x0 x1 x2 x3 x4):Calm P Any (Instr.sliceAt x0 x1 x2 x3 x4):=K.c
instance (a b):K P (Instr.arrayAt a b):=⟨by unfold Instr.arrayAt;exact bR⟩
theorem yZ(x0 x1):Calm P Any (Instr.arrayAt x0 x1):=K.c
instance (a b):K P (Builtin.holdsCells a b):=⟨by unfold Builtin.holdsCells;exact bR⟩
instance (a b c d e):K P (ql a b c d e):=⟨by unfold ql;exact bR⟩
theorem vA(x0 x1 x2 x3 x4):Calm P Any (ql x0 x1 x2 x3 x4):=K.c
instance (a):K P (DL a):=⟨by unfold DL;exact bR⟩
theorem y_(x0):Calm P Any (DL x0):=K.c
instance (a b c):K P (eM a b c):=⟨by unfold eM;exact bR⟩
theorem nC(x0 x1 x2):Calm P Any (eM x0 x1 x2):=K.c
instance (a b c):K P (Builtin.cap_ a b c):=⟨by unfold Builtin.cap_;exact bR⟩
theorem AK(x0 x1 x2):Calm P Any (Builtin.cap_ x0 x1 x2):=K.c
instance (a b c):K P (Builtin.clear_ a b c):=⟨by unfold Builtin.clear_;exact bR⟩
theorem xJ(x0 x1 x2):Calm P Any (Builtin.clear_ x0 x1 x2):=K.c
theorem p_(x0 x1 x2):Calm P Any (Builtin.close_ x0 x1 x2):=by
 unfold Builtin.close_;obtain⟨l⟩:=x2;rcases l with _|⟨a,_|⟨b,_|⟨c,_|⟨d,l⟩⟩⟩⟩
 all_goals (try dsimp only)
 all_goals (try (cases a<;>try dsimp only))
 all_goals (try (rename_i r;cases r<;>try dsimp only))
 all_goals (try exact bL)
 all_goals (try exact K.c)
 all_goals exact bR
instance (x0 x1 x2):K P (Builtin.close_ x0 x1 x2):=⟨p_ x0 x1 x2⟩
instance (a b c):K P (Builtin.copy_ a b c):=⟨by unfold Builtin.copy_;exact bR⟩
theorem za(x0 x1 x2):Calm P Any (Builtin.copy_ x0 x1 x2):=K.c
instance (a b c):K P (Builtin.delete_ a b c):=⟨by unfold Builtin.delete_;exact bR⟩
theorem wJ(x0 x1 x2):Calm P Any (Builtin.delete_ x0 x1 x2):=K.c
instance (a b c):K P (Builtin.len_ a b c):=⟨by unfold Builtin.len_;exact bR⟩
theorem AH(x0 x1 x2):Calm P Any (Builtin.len_ x0 x1 x2):=K.c
instance (a b):K P (Builtin.max2 a b):=⟨by unfold Builtin.max2;exact bR⟩
instance (a b):K P (Builtin.min2 a b):=⟨by unfold Builtin.min2;exact bR⟩
theorem r9(x0 x1 x2):Calm P Any (Cj x0 x1 x2):=by
 unfold Cj;split
 .first|exact bL|exact cS
 refine Dd (fun _ _=>K.c) _ _
instance (x0 x1 x2):K P (Cj x0 x1 x2):=⟨r9 x0 x1 x2⟩
theorem r8(x0 x1 x2):Calm P Any (Ci x0 x1 x2):=by
 unfold Ci;split
 .first|exact bL|exact cS
 refine Dd (fun _ _=>K.c) _ _
instance (x0 x1 x2):K P (Ci x0 x1 x2):=⟨r8 x0 x1 x2⟩
theorem ud(x0 x1 x2):Calm P Any (Builtin.unsafeAdd_ x0 x1 x2):=by
 unfold Builtin.unsafeAdd_;obtain⟨l⟩:=x2;rcases l with _|⟨a,_|⟨b,_|⟨c,_|⟨d,l⟩⟩⟩⟩
 all_goals (try dsimp only)
 all_goals (try (cases a<;>try dsimp only))
 all_goals (try (rename_i r;cases r<;>try dsimp only))
 all_goals (try exact bL)
 all_goals (try exact K.c)
 all_goals exact bR
instance (x0 x1 x2):K P (Builtin.unsafeAdd_ x0 x1 x2):=⟨ud x0 x1 x2⟩
theorem lH(x0 x1 x2):Calm P Any (Builtin.ssaWrapNilChk_ x0 x1 x2):=by
 unfold Builtin.ssaWrapNilChk_;obtain⟨l⟩:=x2;rcases l with _|⟨a,_|⟨b,_|⟨c,_|⟨d,l⟩⟩⟩⟩
 .exact bL
 .exact bL
 .exact bL
 .cases b<;>try exact bL
  cases c<;>try exact bL
  cases a<;>try exact bL
  rename_i s1 s2 r;cases r with
  |some r=>exact cS
  |none=>
   dsimp only;refine aU lV fun _=>?_
   have key:∀(o:Option a7),Calm P Any (match o with
     |some pt=>do
      let .pointer t <-ji pt|stuck "ssa:wrapnilchk: pointer type expected"
      let .named name _:=(<-ly t).desc|stuck "ssa:wrapnilchk: defined type expected"
      let some m:=String.fromUTF8? s2|stuck "ssa:wrapnilchk: the method's name is not UTF-8"
      let base:=(name.splitOn "[").headD ""
      let targs:=if base==name then "" else "[...]"
      match ((base.splitOn "/").getLastD "").splitOn "." with
      |[_,typ]=>
       eJ (.plain ("value method "++toString base++toString targs++ "."++toString m++ " called using nil *"++toString typ++toString targs++ " pointer"))
      |_=>rD (.noEntry "builtin/ssaWrapNilChk.dot in the package path")
     |_=>stuck "ssa:wrapnilchk: no argument types" : iT aj):=by
    intro o;cases o with
    |none=>exact bL
    |some pt=>
     refine aU (K.c) fun u=>?_;cases u<;>try exact bL
     refine aU (K.c) fun u=>?_;generalize u.desc=d;cases d<;>try exact bL
     dsimp only;generalize String.fromUTF8? s2=o2;cases o2<;>try exact bL
     dsimp only
     generalize String.splitOn _ "." = sp;split
     .exact K.c
     exact dU
   split
   .exact aU (K.c) fun _=>key _
   exact key _
 exact bL
instance (x0 x1 x2):K P (Builtin.ssaWrapNilChk_ x0 x1 x2):=⟨lH x0 x1 x2⟩
theorem ua(t x):Calm P Any (Instr.range t x):=by
 unfold Instr.range;refine aU (K.c) fun _=>?_
 repeat' (first|exact cS|exact bL|exact dU|exact(FV rfl)|exact(lU ‹_›)|(with_reducible apply nz;exact rfl)|(with_reducible refine qV ?_ (fun o ho=>by cases o<;>first|rfl|(revert ho;simp[gb];done)))|(refine kx (fun _ _=>?_) ?_)|(refine eW (R:=fun o=>gb o=true) ?_ (fun _ _=>?_))|(refine aU ?_ (fun _=>?_))|split|dsimp only)
instance (t x):K P (Instr.range t x):=⟨ua t x⟩
instance (a b c d):K P (Instr.typeAssert a b c d):=⟨by unfold Instr.typeAssert;exact bR⟩
theorem vw(x0 x1 x2 x3):Calm P Any (Instr.typeAssert x0 x1 x2 x3):=K.c
instance (a b c):K P (movedNumber a b c):=⟨by unfold movedNumber;exact bR⟩
instance (a b c):K P (movedPointer a b c):=⟨by unfold movedPointer;exact bR⟩
instance (a b c d e i):K P (eqGuard a b c d e i):=⟨by unfold eqGuard;exact bR⟩
theorem Ks(x0 x1 x2 x3 x4 x5):Calm P Any (eqGuard x0 x1 x2 x3 x4 x5):=K.c
theorem F0(x0 x1 x2 x3):Calm P Any (binOp x0 x1 x2 x3):=by
 unfold binOp
 all_goals exact bR
instance (x0 x1 x2 x3):K P (binOp x0 x1 x2 x3):=⟨F0 x0 x1 x2 x3⟩
theorem AA(x0 x1 x2):Calm P Any (convert x0 x1 x2):=by
 unfold convert
 all_goals exact bR
instance (x0 x1 x2):K P (convert x0 x1 x2):=⟨AA x0 x1 x2⟩
end
section
variable{P:aN}
theorem V9{β:Type}{Q:β->Prop}{c:Prop}[Decidable c]{s t:iT β}(hs:Calm P Q s)(ht:Calm P Q t):Calm P Q (if c then s else t):=by
 split
 .exact hs
 exact ht
theorem Nj:KM .env:=fun os=>⟨.strings os.env,rfl,sN⟩
theorem Hl:Calm P Any Instr.panicnil:=by
 unfold Instr.panicnil;refine aU (?_:Calm P Any (sys .env)) fun r=>?_
 .exact⟨Nj,fun _=>trivial⟩
 split
 .exact aU jH fun _=>cS
 exact bL
theorem ub(x):Calm P Any (Instr.panic x):=by
 unfold Instr.panic;split
 .exact kK
 .refine aU Hl fun n=>?_;split
  .exact kK
  exact iM _
 exact bL
theorem BI(zeros:Bool)(x0:Array a7)(x:aj)(elem:a7)(size pJ Eu n:Nat)(base:Option cX)(s:aj)(appended:iT (Array aj))(ha:Calm P Any appended) :
  Calm P Any (if pJ+n<=Eu then do
    let new <-appended
    if let some a:=base then storeCells (a.add (pJ*size)) new.toList
    pure (.slice base (pJ+n) Eu)
   else do
    if ((pJ+n:Nat):Int)>IntKind.i64.max/\(zeros=true\/(<-ly elem).bytes=0) then eJ (.error "growslice: len out of range")
    if Builtin.nextslicecap (pJ+n) Eu*(<-ly elem).bytes>2 ^ 48 then(if zeros=true then eJ (.error "growslice: len out of range") else do
     if !(<-ql size pJ n base x) then mark .noRoom
     rD (.resourceLimit "append: a slice or a string whose bytes no memory bears"))
    let mZ <-AV (.appendCap (pJ+n) Eu elem)
    askRoom (mZ*(<-ly elem).bytes)
    let old <-eM size pJ s;let new <-appended;let rest:=f_ (<-je elem).cells (mZ-(pJ+n))
    pure (.slice (some (<-newRow elem (old++new++rest))) (pJ+n) mZ:aj):iT aj):=by
 repeat' (first
   |(with_reducible first|exact ha|exact cS|exact dU|exact lV|exact nM|exact pj)
   |(with_reducible first|exact iM ..|exact jL ..|exact nL ..|exact Nd ..|exact uZ ..|exact nC ..|exact vA ..)
   |(refine aU ?_ (fun _=>?_))|split|dsimp only)
theorem wK(x0 x1 x2):Calm P Any (kE x0 x1 x2):=by
 unfold kE;split
 .rename_i aly s x _;refine aU (ie ..) fun u=>?_;split
  .rename_i elem;split
   .rename_i base pJ Eu _;refine aU (Nb ..) fun size=>?_
    have key:∀(zeros:Bool) (n:Nat),Calm P Any (if pJ+n<=Eu then do
      let new <-(if !zeros then eM size n x else if n*size=0 then pure #[] else do pure (f_ (<-je elem).cells n):iT (Array aj))
      if let some a:=base then storeCells (a.add (pJ*size)) new.toList
      pure (.slice base (pJ+n) Eu)
     else do
      if ((pJ+n:Nat):Int)>IntKind.i64.max/\(zeros=true\/(<-ly elem).bytes=0) then eJ (.error "growslice: len out of range")
      if Builtin.nextslicecap (pJ+n) Eu*(<-ly elem).bytes>2 ^ 48 then(if zeros=true then eJ (.error "growslice: len out of range") else do
       if !(<-ql size pJ n base x) then mark .noRoom
       rD (.resourceLimit "append: a slice or a string whose bytes no memory bears"))
      let mZ <-AV (.appendCap (pJ+n) Eu elem)
      askRoom (mZ*(<-ly elem).bytes)
      let old <-eM size pJ (.slice base pJ Eu);let new <-(if !zeros then eM size n x else if n*size=0 then pure #[] else do pure (f_ (<-je elem).cells n):iT (Array aj))
      let rest:=f_ (<-je elem).cells (mZ-(pJ+n))
      pure (.slice (some (<-newRow elem (old++new++rest))) (pJ+n) mZ:aj):iT aj):=by
     intro zeros n;refine BI zeros x0 x elem size pJ Eu n base _ _ ?_;split
     .exact nC ..
     split
     .exact cS
     exact aU (nL ..) fun _=>cS
    dsimp only
    repeat' (first
     |(with_reducible first|exact cS|exact bL|exact lV|exact iM ..|exact ie ..|exact rb ..|exact jL ..|exact y_ ..)
     |exact key _ _|(with_reducible refine V9 ?_ ?_)|(refine aU ?_ (fun _=>?_))|split)
   exact bL
  exact bL
 exact bL
end
def eY:Next->Prop
 |.value _|.skip|.enter ..|.recover|.comm ..=>True
 |.round _ _ _ assign body=>eb assign=true/\eb body=true
 |.defer d|.spawn d=>pZ d=true
 |_=>False
structure Wm(P:aN):Prop where
 body:∀(f:d_) (fn:Func) (c:Code),P.funcs[f]?=some fn->fn.body=some c->eb c=true
 ext:∀(f:d_) (fn:Func) (args:Array aj),P.funcs[f]?=some fn->fn.body=none->Calm P eY (fT f args)
 name:∀(f:d_) (fn:Func),P.funcs[f]?=some fn->(fn.name == "runtime.NumGoroutine")=false
section
variable{P:aN}
theorem fL{α:Type}{Q:α->Prop}(e):Calm P Q (eJ e:iT α):=by
 unfold eJ
 repeat' (first
   |(with_reducible first|exact kK|exact jH|exact Nh ..|exact Nc ..)|(refine aU ?_ (fun _=>?_))|split|dsimp only)
theorem Ku(b ats t cs args)(hb:Be b=true):Calm P eY (builtin b ats t cs args):=by
 cases b<;>first|(exact absurd hb dN)|skip
 all_goals unfold builtin
 all_goals dsimp only
 all_goals first
  |exact aU (wK ..) fun _=>trivial
  |exact aU (AK ..) fun _=>trivial
  |exact aU (xJ ..) fun _=>trivial
  |exact aU (p_ ..) fun _=>trivial
  |exact aU (za ..) fun _=>trivial
  |exact aU (wJ ..) fun _=>trivial
  |exact aU (AH ..) fun _=>trivial
  |exact aU (r9 ..) fun _=>trivial
  |exact aU (r8 ..) fun _=>trivial
  |exact aU (ub ..) fun _=>trivial
  |trivial
theorem sK(T:Wm P)(f args):Calm P eY (fT f args):=by
 cases hf:P.funcs[f]? with
 |none=>
  unfold fT;refine eW (R:=fun p=>p=P) (show P=P from rfl) ?_;rintro p rfl;rw[hf];exact bL
 |some fn=>
  cases hb:fn.body with
  |none=>exact T.ext f fn args hf hb
  |some c=>
   unfold fT;refine eW (R:=fun p=>p=P) (show P=P from rfl) ?_;rintro p rfl;rw[hf];simp only[T.name f fn hf,hb,Option.isNone_some,bG,if_false];exact trivial
theorem rf(t x):Calm P Any (Place.get t x):=by
 cases x
 .exact cS
 exact uF ..
theorem Dc(l t x):Calm P Any (follow l t x):=by
 induction l generalizing t x with
 |nil=>exact cS
 |cons s l ih=>
  unfold follow
  repeat' (first
   |(with_reducible first|exact cS|exact bL|exact ie ..|exact nB ..|exact rf ..|exact Dx ..|exact I0 ..)|exact ih ..
   |(refine aU ?_ (fun _=>?_))|split)
theorem u_(a b c d):Calm P Any (receiverAt a b c d):=by
 unfold receiverAt
 repeat' (first
   |(with_reducible first|exact cS|exact bL|exact ie ..|exact nB ..|exact rf ..|exact uF ..|exact lH ..)
   |(refine aU ?_ (fun _=>?_))|split)
theorem BF(a b c d):Calm P Any (receiverVia a b c d):=by
 unfold receiverVia;refine aU (Dc ..) fun _=>?_;exact u_ ..
theorem Nf(n t v s):Calm P Any (method n t v s):=by
 induction n generalizing t v with
 |zero=>exact dU
 |succ n ih=>
  unfold method
  repeat' (first
   |(with_reducible first|exact cS|exact bL|exact iM ..|exact jL ..|exact Dc ..|exact rf ..|exact u_ ..)|exact ih ..
   |(refine aU ?_ (fun _=>?_))|split)
theorem BG(l t x):Calm P Any (followBlind l t x):=by
 induction l generalizing t x with
 |nil=>exact cS
 |cons s l ih=>
  unfold followBlind
  repeat' (first
   |(with_reducible first|exact cS|exact bL|exact ie ..|exact I0 ..)|exact ih ..
   |(refine aU ?_ (fun _=>?_))|split)
theorem Hm(n t v s):Calm P Any (nilAhead n t v s):=by
 induction n generalizing t v with
 |zero=>exact cS
 |succ n ih=>
  unfold nilAhead
  repeat' (first
   |(with_reducible first|exact cS|exact bL|exact jL ..|exact ie ..|exact BG ..)|exact ih ..
   |(refine aU ?_ (fun _=>?_))|split)
theorem vd(T:Wm P)(r n args):Calm P eY (callMethod r n args):=by
 unfold callMethod;split
 .exact aU jH fun _=>aU (Nf ..) fun _=>sK T ..
 .exact fL _
 exact bL
theorem l9(l):Calm P (fun r=>yD r=true) (Instr.getLoop l):=by
 unfold Instr.getLoop;refine kx (fun o ho=>?_) (nz rfl);split
 .exact ho
 exact bL
theorem Pv(l args):Calm P eY (Instr.yield l args):=by
 unfold Instr.yield;refine eW (l9 l) fun r hr=>?_
 have hok:eb r.assign=true/\eb r.body=true:=by
  simp only[yD,aJ] at hr;exact⟨hr.1.2,hr.2⟩
 split
 .exact aU bL fun _=>hok
 exact hok
theorem rY(T:Wm P)(t args)(ht:LV t=true):Calm P eY (invoke t args):=by
 unfold invoke;split
 .exact fL _
 .exact Ku _ _ _ _ _ ht
 .exact sK T ..
 .split
  .exact vd T ..
  exact bL
 .split
  .refine aU (ie ..) fun _=>?_;exact vd T ..
  exact bL
 .split
  .refine aU (BF ..) fun _=>?_;exact sK T ..
  exact bL
 .exact Pv _ _
 .exact bL
 cases ht
theorem l8(U c t)(hc:JJ c=true):Calm P (fun d=>pZ d=true) (B6 U c t):=by
 unfold B6;unfold JJ at hc;split
 .rename_i b hb;rw[hb] at hc;exact hc
 .show pZ _=true;rfl
 unfold Deferred.ofValue;split
 .show pZ _=true;rfl
 .show pZ _=true;rfl
 exact bL
theorem ey{s:iT aj}(h:Calm P Any s):Calm P eY (do pure (.value (<-s))):=aU h fun _=>trivial
theorem tZ{s:iT Unit}(h:Calm P Any s):Calm P eY (do s;pure .skip):=aU h fun _=>trivial
theorem Ng(T:Wm P)(U o)(ho:Bd o=true):Calm P eY (execOp U o):=by
 unfold Bd at ho;unfold execOp;cases hop:o.op with
 |nilCheck x=>
  dsimp only
  repeat' (first|(with_reducible first|exact fL _|exact jH|exact Hm ..|exact dU)|exact FV (show eY _ from trivial)|(refine aU ?_ (fun _=>?_))|split)
 |call c=>
  rw[hop] at ho;exact eW (l8 _ _ _ ho) fun d hd=>rY T _ _ hd
 |go c=>
  rw[hop] at ho;exact eW (l8 _ _ _ ho) fun d hd=>hd
 |defer c=>
  rw[hop] at ho;exact eW (l8 _ _ _ ho) fun d hd=>hd
 |recv ct ch ok=>
  dsimp only;refine aU (ie ..) fun _=>?_;split
  .exact aU (nL ..) fun _=>trivial
  exact bL
 |select cs b=>
  dsimp only;exact aU (qx (fun _=>aU (nL ..) fun _=>cS) _) fun _=>trivial
 |pick c a b=>
  dsimp only;refine aU (Ni ..) fun _=>?_;exact trivial
 |binOp op t x y u=>exact ey (aU (Ks ..) fun _=>F0 ..)
 |alloc=>exact ey (BP ..)
 |box=>exact ey (F2 ..)
 |build=>exact ey (BO ..)
 |buildSlice=>exact ey (vz ..)
 |load=>exact ey (AG ..)
 |store=>exact tZ (yS ..)
 |ready=>exact tZ (BK _)
 |waits=>exact ey (BJ _)
 |sliceToArrayPointer=>exact ey (yZ ..)
 |makeInterface=>exact ey (sS ..)
 |makeFunc=>exact ey (xG ..)
 |makeMap=>exact ey (yU ..)
 |makeChan=>exact ey (xH ..)
 |makeSlice=>exact ey (wI ..)
 |slice=>exact ey (yT ..)
 |fieldAddr=>exact ey (yX ..)
 |field=>exact ey (BM ..)
 |indexAddr=>exact ey (yV ..)
 |index=>exact ey (BL ..)
 |lookup=>exact ey (AE ..)
 |mapUpdate=>exact tZ (pw ..)
 |insert=>exact tZ (pw ..)
 |mapEntry=>exact ey (xF ..)
 |entryStore=>exact tZ (vy ..)
 |range=>exact ey (ua ..)
 |next=>exact ey (DC ..)
 |entry=>exact ey (BN ..)
 |typeAssert=>exact ey (vw ..)
 |extract=>exact ey (yY ..)
 |panic=>exact ey (ub ..)
 |unOp=>exact ey (Ho ..)
 |convert=>exact ey (AA ..)
 |move|assign|send=>exact(show eY _ from trivial)
theorem FZ(fn tmps params assign body around)(ha:eb assign=true)(hb:eb body=true):Calm P (fun r=>r.2.all pZ=true) (Instr.enterLoop fn tmps params assign body around):=by
 unfold Instr.enterLoop
 extract_lets jp
 have hjp:∀x:Nat × List Deferred,x.2.all pZ=true->Calm P (fun r=>r.2.all pZ=true) (jp x):=by
  rintro⟨d,m⟩ hm;refine aU (lU ?_) fun _=>hm;simp[gb,yD,ha,hb]
 clear_value jp
 split
 .exact eW (l9 _) fun _ _=>hjp _ rfl
 exact aU (lU rfl) fun _=>hjp _ rfl
theorem Dy(l):Calm P Any (Instr.beginRound l):=by
 unfold Instr.beginRound;refine eW (l9 l) fun r hr=>aU (jd hr) fun _=>?_;split<;>first|exact cS|exact iM _
theorem Hn(l jump)(hj:jump.all eb=true):Calm P Any (Instr.endRound l jump):=by
 unfold Instr.endRound;refine eW (l9 l) fun r hr=>aU (jd ?_) fun _=>cS;simp only[yD,aJ] at hr;simp[gb,yD,hj,hr.1.2,hr.2]
theorem Kt(l):Calm P (fun j:Option Code=>j.all eb=true) (Instr.endLoop l):=by
 unfold Instr.endLoop;refine eW (l9 l) fun r hr=>?_
 have hp:r.pending.all eb=true:=by
  simp only[yD,aJ] at hr;exact hr.1.1
 dsimp only;split
 .exact aU (fL _) fun _=>aU (jd hr) fun _=>hp
 exact aU (jd hr) fun _=>hp
theorem Az(l d)(hd:pZ d=true):Calm P Any (Instr.deferInRound l d):=by
 unfold Instr.deferInRound;refine eW (l9 l) fun r hr=>kx (fun o ho=>?_) (nz rfl);split
 .refine jd ?_;simp only[gb,dX,hd,Bool.true_and];exact ho
 .exact q7
 exact bL
theorem Ax(b):Calm P (fun ds:List Deferred=>ds.all pZ=true) (Instr.takeDeferred b):=by
 unfold Instr.takeDeferred;refine kx (fun o ho=>?_) (nz rfl);split
 .exact aU (jd rfl) fun _=>ho
 exact bL
theorem Ay(fn tmps):Calm P Any (results fn tmps):=by
 unfold results;refine aU (qx (fun r=>?_) _) fun _=>cS;split
 .exact cS
 exact aU (nB ..) fun _=>uF ..
end
def dI(w:ak):Prop:=∀(b:Nat) (o:Obj),w.heap[b]?=some o->gb o=true\/o=.coro none
def BX(B:Nat)(e:gO):Prop:=
 (∃a,e.loc=.cell a/\a.block<B)\/(∃r,e.loc=.obj r/\r<B)\/e.loc=.output\/e.loc=.mark .noRoom\/∃f,e.loc=.mark (.extern f)
def BX.mono{B B':Nat}{e:gO}(h:BX B e)(hB:B<=B'):BX B' e:=by
 rcases h with⟨a,h1,h2⟩|⟨r,h1,h2⟩|h|h|h
 .exact .inl ⟨a,h1,oN⟩
 .exact .inr (.inl ⟨r,h1,oN⟩)
 .exact .inr (.inr (.inl h))
 .exact .inr (.inr (.inr (.inl h)))
 exact .inr (.inr (.inr (.inr h)))
def QJ{w:ak}{a:cX}{v:aj}(h:w.cell? a=some v):a.block<w.heap.size:=by
 unfold World.cell? at h;rcases Nat.lt_or_ge a.block w.heap.size with hl|hl
 .exact hl
 rw[fS hl] at h;cases h
def eR{w:ak}{r:Nat}{o:Obj}(h:w.heap[r]?=some o):r<w.heap.size:=(ah.1 h).1
def Er{p:aN}{w:ak}{at_:cX}{u:a7}{k:cX}{b:Bool}{x}(h:w.seen p at_ u k b=.ok x):at_.block<w.heap.size:=by
 unfold World.seen at h;rcases Nat.lt_or_ge at_.block w.heap.size with hl|hl
 .exact hl
 simp only[fS hl,Bind.bind,Except.bind,eZ,Except.pure,throw,throwThe,MonadExceptOf.throw] at h
 repeat' (first|(split at h)|(cases h;done))
def MP{p:aN}{w:ak}{a:cX}{b:Bool}{v:aj}{l:List cX}(h:w.farLoad p a b=.ok (v,l)):∀x∈l,x.block<w.heap.size:=by
 unfold World.farLoad at h;split at h
 .rename_i at_ u _;unfold World.viewLoad at h;generalize hs:w.seen p at_ u a b=s at h;cases s with
  |error e=>simp only[Bind.bind,Except.bind] at h;cases h
  |ok s=>
   have hb:=Er hs;obtain⟨c,e,fz,first,like,cells⟩:=s;simp only[Bind.bind,Except.bind,eZ,Except.pure] at h;generalize like.ofBytes _=o at h;cases o with
   |none=>cases h
   |some v'=>
    simp only at h;cases h;intro x hx;obtain⟨y,_,rfl⟩:=dn.1 hx;exact hb
 cases h
def Kj{p:aN}{w w':ak}{a:cX}{v:aj}{b:Bool}{l:List cX}(h:w.farStore p a v b=.ok (w',l)) :
  (∀x∈l,x.block<w.heap.size)/\w'.heap.size=w.heap.size/\w'.tape=w.tape/\w'.drawn=w.drawn/\(dI w->dI w'):=by
 unfold World.farStore at h;split at h
 .rename_i at_ u _;unfold World.viewStore at h;generalize hs:w.seen p at_ u a b=s at h;cases s with
  |error e=>by_cases ht:tight p p.depth u<;>simp only[ht] at h<;>cases h
  |ok s=>
   have hb:=Er hs;obtain⟨c,e,fz,first,like,cells⟩:=s
   by_cases ht:tight p p.depth u
   .simp only[ht,Bind.bind,Except.bind,eZ,Except.pure] at h;simp only[vH,bG,if_false] at h;cases hv:v.bytes? with
    |none=>rw[hv] at h;cases h
    |some bytes=>
     rw[hv] at h;simp only[] at h;split at h
     all_goals
      rename_i r hr;split at hr
      .cases hr<;>cases h
      generalize (List.foldlM _ c cells:Except String (Array aj))=r' at hr;cases r'<;>cases hr<;>cases h<;>refine⟨fun x hx=>?_,sN,rfl,rfl,fun hk b o ho=>?_⟩
      all_goals first
       |(obtain⟨y,_,rfl⟩:=dn.1 hx;exact hb)
       |(by_cases e1:at_.block=b
         .subst e1;simp only[bn hb,ia] at ho;subst ho;exact .inl rfl
         simp only[aG e1] at ho
         exact hk _ _ ho)
   simp only[ht] at h;cases h
 cases h
class vh where
 κ:Nat->Option Obj
structure jB[K:vh](lw w:ak):Prop where
 size:lw.heap.size=w.heap.size
 os:lw.os=w.os
 out:lw.output=w.output
 at_:∀b:Nat,lw.heap[b]?=w.heap[b]?\/(lw.heap[b]?=some (.coro none)/\∃o,w.heap[b]?=some o/\gb o=false)
 old:∀b x,K.κ b=some x->b<lw.heap.size
 kept:∀b x,K.κ b=some x->lw.heap[b]?=some (.coro none)->w.heap[b]?=some x
def j3{o:Obj}(h:gb o=false):(∀c t f,o≠.cells c t f)/\(∀c t,o≠.pending c t)/\(∀a t,o≠.view a t)/\o.isChan=false:=by
 cases o<;>simp_all [gb,Obj.isChan]
section
variable[vh]{lw w:ak}(V:jB lw w)
include V
theorem tv(I d):jB lw (dH w I d):=⟨V.size,V.os,V.out,V.at_,V.old,V.kept⟩
theorem wR(a:cX):w.cell? a=lw.cell? a:=by
 unfold World.cell?;rcases V.at_ a.block with h|⟨h1,o,h2,h3⟩
 .rw[h]
 have:=(j3 h3).1;rw[h1,h2];cases o<;>simp_all
theorem NU(r:Nat):w.shape? r=lw.shape? r:=by
 unfold World.shape?;rcases V.at_ r with h|⟨h1,o,h2,h3⟩
 .rw[h]
 have:=(j3 h3).1;rw[h1,h2];cases o<;>simp_all
theorem vJ(a:cX):w.frozen? a=lw.frozen? a:=by
 unfold World.frozen?;rcases V.at_ a.block with h|⟨h1,o,h2,h3⟩
 .rw[h]
 have:=(j3 h3).1;rw[h1,h2];cases o<;>simp_all
theorem Ia(p:aN)(x u k b):w.seen p x u k b=lw.seen p x u k b:=by
 unfold World.seen;rcases V.at_ x.block with h|⟨h1,o,h2,h3⟩
 .rw[h]
 have:=(j3 h3).1;rw[h1,h2];cases o<;>first|rfl|(exact absurd rfl (this _ _ _))
theorem Q5(p:aN)(a b):w.farLoad p a b=lw.farLoad p a b:=by
 unfold World.farLoad World.noCell World.viewLoad;simp only[Ia V];rcases V.at_ a.block with h|⟨h1,o,h2,h3⟩
 .rw[h]
 obtain⟨h4,h5,h6,_⟩:=j3 h3;rw[h1,h2];cases o<;>first|rfl|(exact absurd rfl (h5 _ _))|(exact absurd rfl (h6 _ _))
theorem TP(o:Obj):jB { lw with heap:=lw.heap.push o } { w with heap:=w.heap.push o }:=by
 refine⟨by simp[V.size],V.os,V.out,fun b=>?_,fun b x h=>by have:=V.old b x h;simp;omega,fun b x h=>?_⟩
 .simp only[lM,V.size];split
  .exact .inl rfl
  exact V.at_ b
 have h1:=V.old b x h;have h2:=V.size;simp only[lM];rw[if_neg oN,if_neg oN];exact V.kept b x h
theorem zq(r:Nat)(o:Obj)(hk:gb o=true):jB { lw with heap:=lw.heap.setIfInBounds r o } { w with heap:=w.heap.setIfInBounds r o }:=by
 refine⟨by simp[V.size],V.os,V.out,fun b=>?_,fun b x h=>by simpa using V.old b x h,fun b x h=>?_⟩
 .by_cases e:r=b
  .subst e;left;simp only[bK,if_true,V.size]
  simp only[aG e];exact V.at_ b
 by_cases e:r=b
 .subst e;have h1:=V.old r x h;simp only[bK,if_true];rw[if_pos h1];intro h2;cases h2;cases hk
 simp only[aG e];exact V.kept b x h
theorem Cm(r:Nat)(f:Obj->Obj)(hf:∀o,(∀c t z,o≠.cells c t z)->f o=o)(hf2:∀o,f o=.coro none->o=.coro none):jB { lw with heap:=lw.heap.modify r f } { w with heap:=w.heap.modify r f }:=by
 refine⟨by simp[V.size],V.os,V.out,fun b=>?_,fun b x h=>by simpa using V.old b x h,fun b x h=>?_⟩
 .simp only[pX];split
  .rename_i e;subst e;rcases V.at_ r with h|⟨h1,o,h2,h3⟩
   .rw[h];exact .inl rfl
   right;refine⟨by rw[h1];simp only[dM];rw[hf];intro c t z;exact nofun,o,by rw[h2];simp only[dM];rw[hf _ (j3 h3).1],h3⟩
  exact V.at_ b
 simp only[pX];split
 .rename_i e;subst e;intro h1;obtain⟨o,h2,h3⟩:=eP.1 h1;obtain rfl:=hf2 o h3;have h4:=V.kept r x h h2;rcases V.at_ r with h5|⟨_,o,h5,h6⟩
  .rw[h2,h4] at h5;cases h5;rw[h4];simp only[dM];rw[h3]
  rw[h4] at h5;cases h5;rw[h4];simp only[dM];rw[hf _ (j3 h6).1]
 exact V.kept b x h
theorem Le(a:cX)(n:Nat):jB (lw.freeze a n) (w.freeze a n):=by
 unfold World.freeze;split
 .exact V
 exact Cm V _ _ (fun o h=>by cases o<;>first|rfl|exact absurd rfl (h _ _ _)) fun o h=>by cases o<;>first|exact h|cases h
theorem Jg(a:cX)(v:aj):jB (lw.setCell a v) (w.setCell a v):=by
 unfold kz;exact Cm V _ _ (fun o h=>by cases o<;>first|rfl|exact absurd rfl (h _ _ _)) fun o h=>by cases o<;>first|exact h|cases h
end
def OW{w:ak}(h:dI w){o:Obj}(ho:gb o=true):dI { w with heap:=w.heap.push o }:=fun b x hx=>by
 simp only[lM] at hx;split at hx
 .cases hx;exact .inl ho
 exact h b x hx
def yK{w:ak}(h:dI w){r:Nat}{o:Obj}(ho:gb o=true):dI { w with heap:=w.heap.setIfInBounds r o }:=fun b x hx=>by
 by_cases e:r=b
 .subst e;simp only[bK,if_true] at hx;split at hx
  .cases hx;exact .inl ho
  cases hx
 simp only[aG e] at hx;exact h b x hx
def xY{w:ak}(h:dI w){r:Nat}{f:Obj->Obj}(hf:∀o,gb o=true->gb (f o)=true)(hk:f (.coro none)=.coro none):dI { w with heap:=w.heap.modify r f }:=fun b x hx=>by
 simp only[pX] at hx;split at hx
 .rename_i e;subst e;obtain⟨y,hy,rfl⟩:=eP.1 hx;rcases h _ _ hy with h'|rfl
  .exact .inl (hf _ h')
  exact .inr hk
 exact h b x hx
def Ha{w:ak}(h:dI w)(a:cX)(n:Nat):dI (w.freeze a n):=by
 unfold World.freeze;split
 .exact h
 exact xY h (fun o ho=>by cases o<;>first|exact ho|rfl) rfl
def Fp{w:ak}(h:dI w)(a:cX)(v:aj):dI (w.setCell a v):=by
 unfold kz;exact xY h (fun o ho=>by cases o<;>first|exact ho|rfl) rfl
def Bf{α:Type}:Except Halt α->ak->Result α
 |.ok a,w=>.ok a w
 |.error h,w=>.halt h w
def OkR{α:Type}(Q:α->Prop):Except Halt α->Prop
 |.ok a=>Q a
 |.error h=>h≠.blocked/\h≠.waiting
structure QP[vh](P:aN){α:Type}(Q:α->Prop)(s:iT α)(lw w eL w':ak)(k:Nat)(r:Except Halt α)(new:Array gO):Prop where
 tape:eL.tape=lw.tape
 drawn:eL.drawn=lw.drawn+k
 grows:lw.heap.size<=eL.heap.size
 ok:dI eL
 evs:∀e∈new,BX eL.heap.size e
 ui:jB eL w'
 res:OkR Q r
 lone:∀es,s.runT P lw es=(Bf r eL,es++new)
 many:∀I d,Agree k lw.tape lw.drawn I d->∀es,s.runT P (dH w I d) es=(Bf r (dH w' I (d+k)),es++new)
def Zl(P:aN){α:Type}(s:iT α)(lw:ak):Prop:=∃why eL,∀es,∃es',s.runT P lw es=(.halt (.stuck why) eL,es')
def Lj{c:Sys}(h:KM c)(w:ak):∃r,(Kernel.perform c w.os=.done (r,w.os))/\w.sys c=(r,w):=by
 obtain⟨r,h1,h2⟩:=h w.os;refine⟨r,h1,?_⟩;unfold World.sys;rw[h1];cases r<;>first|rfl|exact absurd rfl h2
section
variable{P:aN}{α:Type}{Q:α->Prop}
theorem PE{k:Nat}{I I':Nat->dQ->Nat}{d d':Nat}(h:Agree (k+1) I d I' d'):Agree k I (d+1) I' (d'+1):=fun i hi=>by
 have:=h (i+1) oN;rwa [show d+(i+1)=d+1+i by omega,show d'+(i+1)=d'+1+i by omega] at this
theorem QP.cons[vh]{s t:iT α}{lw w nJ w₁ eL w':ak}{k:Nat}{r:Except Halt α}{new:Array gO}(pre:Array gO)
  (h:QP P Q t nJ w₁ eL w' k r new) (ht:nJ.tape=lw.tape) (hd:nJ.drawn=lw.drawn) (hs:lw.heap.size<=nJ.heap.size) (he:∀e∈pre,BX nJ.heap.size e)
  (hl:∀es,s.runT P lw es=t.runT P nJ (es++pre)) (hm:∀I d es,s.runT P (dH w I d) es=t.runT P (dH w₁ I d) (es++pre)) :
  QP P Q s lw w eL w' k r (pre++new) where
 tape:=h.tape.trans ht
 drawn:=by rw[h.drawn,hd]
 grows:=aF hs h.grows
 ok:=h.ok
 evs e hx:=by
  rcases H6.1 hx with hx|hx
  .exact(he e hx).mono h.grows
  exact h.evs e hx
 ui:=h.ui
 res:=h.res
 lone es:=by rw[hl,h.lone,Array.append_assoc]
 many I d ha es:=by rw[hm,h.many I d (by rwa [ht,hd]),Array.append_assoc]
theorem Zl.cons{s t:iT α}{lw nJ:ak}(pre:Array gO)(h:Zl P t nJ)(hl:∀es,s.runT P lw es=t.runT P nJ (es++pre)):Zl P s lw:=by
 obtain⟨why,eL,h⟩:=h;exact⟨why,eL,fun es=>by rw[hl];exact h _⟩
theorem QP.halted[vh]{lw w:ak}{h:Halt}{s:iT α}(hok:dI lw)(V:jB lw w)(hh:h≠.blocked/\h≠.waiting)
  (hl:∀es,s.runT P lw es=(.halt h lw,es)) (hm:∀I d es,s.runT P (dH w I d) es=(.halt h (dH w I d),es)):QP P Q s lw w lw w 0 (.error h) #[] where
 tape:=rfl
 drawn:=rfl
 grows:=aO _
 ok:=hok
 evs:=by simp
 ui:=V
 res:=hh
 lone es:=by rw[hl];simp only[en];rfl
 many I d _ es:=by rw[hm];simp only[en];rfl
end
section
variable{P:aN}{α:Type}{Q:α->Prop}
theorem uA{B:Nat}{e:gO}(h:BX B e):∀x∈#[e],BX B x:=fun x hx=>by
 have:x=e:=by simpa using hx
 rw[this];exact h
theorem IW{B:Nat}{l:List cX}{wr s:Bool}(h:∀x∈l,x.block<B):∀e∈(l.toArray.map (fun a=>(⟨.cell a,wr,s⟩:gO))),BX B e:=fun e he=>by
 obtain⟨a,ha,rfl⟩:=Array.mem_map.1 he;exact .inl ⟨a,rfl,h a (by simpa using ha)⟩
theorem lQ(m:Mode)(a:cX)(v:aj)(k:iT α)(h1:∀x,v≠.agg x)(h2:∀x,v≠.tuple x)(w:ak)(es:Array gO):(Sem.store m a v k).runT P w es =
  match w.cell? a with
  |some _=>
   if w.frozen? a then(.halt (.unsupported (.unsafePointer "a write to bytes that a string shares")) w,es)
   else k.runT P (w.setCell a v) (es.push ⟨.cell a,true,m == .atomic⟩)
  |none=>match w.farStore P a v (m == .atomic) with
   |.ok (w,uk)=>k.runT P w (es++uk.toArray.map (⟨.cell ·,true,m == .atomic⟩))
   |.error h=>(.halt h w,es):=by
 cases v<;>first|rfl|exact absurd rfl (h1 _)|exact absurd rfl (h2 _)
theorem EW{s:String}:Halt.stuck s≠.blocked/\Halt.stuck s≠.waiting:=by constructor<;>simp
theorem JM{u:Unsupported}:Halt.unsupported u≠.blocked/\Halt.unsupported u≠.waiting:=by constructor<;>simp
def Twin(x:Nat)(W W':ak)(r r':Except String (ak × List cX)):Prop:=
 ∃r0:Except String (Obj × List cX),r=(r0.map fun y=>({ W with heap:=W.heap.setIfInBounds x y.1 },y.2))/\r'=(r0.map fun y=>({ W' with heap:=W'.heap.setIfInBounds x y.1 },y.2))/\∀y,r0=.ok y->gb y.1=true
theorem Ed(p:aN)(x:cX)(u:a7)(k:cX)(v:aj)(b:Bool)(W W':ak)(h:W'.seen p x u k b=W.seen p x u k b) :
  Twin x.block W W' (W.viewStore p x u k v b) (W'.viewStore p x u k v b):=by
 unfold World.viewStore;rw[h];generalize W.seen p x u k b=s
 by_cases ht:tight p p.depth u=true
 .simp only[ht,vH,bG,if_false];cases s with
  |error e=>exact⟨.error e,rfl,rfl,fun _ h=>by cases h⟩
  |ok s=>
   obtain⟨c,e,fz,first,like,cells⟩:=s;cases hv:v.bytes? with
   |none=>exact⟨.error _,rfl,rfl,fun _ h=>by cases h⟩
   |some bytes=>
    by_cases hl:some bytes.length≠like.bytes?.map (·.length)
    .simp only[Bind.bind,Except.bind,eZ,Except.pure];rw[if_pos hl,if_pos hl];exact⟨.error _,rfl,rfl,fun _ h=>by cases h⟩
    .simp only[Bind.bind,Except.bind,eZ,Except.pure];rw[if_neg hl,if_neg hl];generalize (List.foldlM _ c cells:Except String (Array aj))=r;cases r with
     |error e=>exact⟨.error e,rfl,rfl,fun _ h=>by cases h⟩
     |ok c'=>exact⟨.ok (.cells c' e fz,_),rfl,rfl,fun _ h=>by cases h;rfl⟩
 simp only[ht];exact⟨.error _,rfl,rfl,fun _ h=>by cases h⟩
theorem Hg[vh]{lw w:ak}(V:jB lw w)(p:aN)(a:cX)(v:aj)(b:Bool) :
  (∀e,lw.farStore p a v b=.error e->w.farStore p a v b=.error e)/\(∀eL l,lw.farStore p a v b=.ok (eL,l)->∃w',w.farStore p a v b=.ok (w',l)/\jB eL w'):=by
 unfold World.farStore World.noCell;rcases V.at_ a.block with h|⟨h1,o,h2,h3⟩
 .rw[h];split
  .rename_i at_ u _;obtain⟨r,hr1,hr2,hr3⟩:=Ed p at_ u a v b lw w (Ia V ..);rw[hr1,hr2];cases r with
   |error e=>exact⟨fun _ h=>h,fun _ _ h=>by cases h⟩
   |ok y=>exact⟨fun _ h=>by(cases h),fun eL l hl=>by cases hl;exact⟨_,rfl,zq V _ _ (hr3 _ rfl)⟩⟩
  exact⟨fun e he=>he,fun eL l hl=>by cases hl⟩
 obtain⟨h4,h5,h6,_⟩:=j3 h3;rw[h1,h2];refine⟨fun e he=>?_,fun eL l hl=>by cases hl⟩;simp only at he;cases o<;>first|exact he|(exact absurd rfl (h5 _ _))|(exact absurd rfl (h6 _ _))
theorem MO{w:ak}{p:aN}{a:cX}{what:String}:w.noCell a what≠.blocked/\w.noCell a what≠.waiting:=by
 unfold World.noCell;split<;>first|exact EW|exact JM
theorem MQ{w:ak}{p:aN}{a:cX}{b:Bool}{e:Halt}(h:w.farLoad p a b=.error e):e≠.blocked/\e≠.waiting:=by
 unfold World.farLoad at h;split at h
 .split at h
  .cases h
  cases h;exact JM
 cases h;exact MO (p:=p)
theorem Kk{w:ak}{p:aN}{a:cX}{v:aj}{b:Bool}{e:Halt}(h:w.farStore p a v b=.error e):e≠.blocked/\e≠.waiting:=by
 unfold World.farStore at h;split at h
 .split at h
  .cases h
  cases h;exact JM
 cases h;exact MO (p:=p)
theorem xk[vh]{s:iT α}(hs:Calm P Q s){lw w:ak}(hok:dI lw)(V:jB lw w):Zl P s lw\/∃eL w' k r new,QP P Q s lw w eL w' k r new:=by
 induction s generalizing lw w with
 |pure a=>exact .inr ⟨lw,w,0,.ok a,#[],rfl,rfl,aO _,hok,sN,V,hs,fun es=>by simp only[en];rfl,fun I d _ es=>by simp only[en];rfl⟩
 |load m a k ih=>
  cases hc:lw.cell? a with
  |some v=>
   have hw:w.cell? a=some v:=(wR V a).trans hc;have hl:∀es,(Sem.load m a k).runT P lw es=(k v).runT P lw (es++#[⟨.cell a,false,m == .atomic⟩]):=fun es=>by rw[dK,hc];simp
   rcases ih v (hs v) hok V with h|⟨eL,w',n,r,new,h⟩
   .exact .inl (h.cons _ hl)
   exact .inr ⟨_,_,_,_,_,h.cons _ rfl rfl (aO _) (uA (.inl ⟨a,rfl,QJ hc⟩)) hl fun I d es=>by rw[dK,qZ,hw];simp⟩
  |none=>
   have hw:w.cell? a=none:=(wR V a).trans hc;have hf:=Q5 V P a (m == .atomic);cases hx:lw.farLoad P a (m == .atomic) with
   |ok x=>
    obtain⟨v,l⟩:=x;rw[hx] at hf;have hl:∀es,(Sem.load m a k).runT P lw es=(k v).runT P lw (es++l.toArray.map (⟨.cell ·,false,m == .atomic⟩)):=fun es=>by rw[dK,hc];simp only[hx]
    rcases ih v (hs v) hok V with h|⟨eL,w',n,r,new,h⟩
    .exact .inl (h.cons _ hl)
    exact .inr ⟨_,_,_,_,_,h.cons _ rfl rfl (aO _) (IW (MP hx)) hl fun I d es=>by rw[dK,qZ,hw];simp only[C6,hf]⟩
   |error e=>
    rw[hx] at hf;exact .inr ⟨_,_,_,_,_,QP.halted hok V (MQ hx) (fun es=>by rw[dK,hc];simp only[hx]) fun I d es=>by rw[dK,qZ,hw];simp only[C6,hf]⟩
 |store m a v k ih=>
  by_cases h1:∃x,v=.agg x
  .obtain⟨x,rfl⟩:=h1;exact .inr ⟨_,_,_,_,_,QP.halted hok V EW (fun es=>by rw[dK]) fun I d es=>by rw[dK]⟩
  by_cases h2:∃x,v=.tuple x
  .obtain⟨x,rfl⟩:=h2;exact .inr ⟨_,_,_,_,_,QP.halted hok V EW (fun es=>by rw[dK]) fun I d es=>by rw[dK]⟩
  have h1':∀x,v≠.agg x:=fun x e=>h1 ⟨x,e⟩;have h2':∀x,v≠.tuple x:=fun x e=>h2 ⟨x,e⟩;cases hc:lw.cell? a with
  |some v0=>
   have hw:w.cell? a=some v0:=(wR V a).trans hc
   by_cases hz:lw.frozen? a=true
   .have hz':w.frozen? a=true:=(vJ V a).trans hz
    exact .inr ⟨_,_,_,_,_,QP.halted (h:=.unsupported (.unsafePointer "a write to bytes that a string shares")) hok V JM (fun es=>by rw[lQ _ _ _ _ h1' h2',hc];simp only[hz,if_true]) fun I d es=>by
     rw[lQ _ _ _ _ h1' h2',qZ,hw];simp only[yM,hz',if_true]⟩
   have hz1:lw.frozen? a=false:=by simpa using hz
   have hz':w.frozen? a=false:=(vJ V a).trans hz1
   have hl:∀es,(Sem.store m a v k).runT P lw es=k.runT P (lw.setCell a v) (es++#[⟨.cell a,true,m == .atomic⟩]):=fun es=>by
    rw[lQ _ _ _ _ h1' h2',hc];simp[hz1]
   have hsz:(lw.setCell a v).heap.size=lw.heap.size:=by unfold kz;simp
   rcases ih hs (Fp hok a v) (Jg V a v) with h|⟨eL,w',n,r,new,h⟩
   .exact .inl (h.cons _ hl)
   refine .inr ⟨_,_,_,_,_,h.cons _ rfl rfl oN (uA (.inl ⟨a,rfl,by rw[hsz];exact QJ hc⟩)) hl fun I d es=>?_⟩;rw[lQ _ _ _ _ h1' h2',qZ,hw];simp only[yM,hz',bG,if_false,<-Array.push_eq_append];rfl
  |none=>
   have hw:w.cell? a=none:=(wR V a).trans hc;obtain⟨hf1,hf2⟩:=Hg V P a v (m == .atomic);cases hx:lw.farStore P a v (m == .atomic) with
   |ok x=>
    obtain⟨nJ,l⟩:=x;obtain⟨w₁,UY,V₁⟩:=hf2 _ _ hx;obtain⟨g1,g2,g3,g4,g5⟩:=Kj hx
    have hl:∀es,(Sem.store m a v k).runT P lw es=k.runT P nJ (es++l.toArray.map (⟨.cell ·,true,m == .atomic⟩)):=fun es=>by
     rw[lQ _ _ _ _ h1' h2',hc];simp only[hx]
    rcases ih hs (g5 hok) V₁ with h|⟨eL,w',n,r,new,h⟩
    .exact .inl (h.cons _ hl)
    exact .inr ⟨_,_,_,_,_,h.cons _ g3 g4 oN (IW (fun x hx=>by rw[g2];exact g1 x hx)) hl fun I d es=>by
     rw[lQ _ _ _ _ h1' h2',qZ,hw];simp only[Ai,UY]
     rfl⟩
   |error e=>
    have UY:=hf1 _ hx
    exact .inr ⟨_,_,_,_,_,QP.halted hok V (Kk hx) (fun es=>by rw[lQ _ _ _ _ h1' h2',hc];simp only[hx]) fun I d es=>by
     rw[lQ _ _ _ _ h1' h2',qZ,hw];simp only[Ai,UY]
     rfl⟩
 |new o k ih=>
  have hl:∀es,(Sem.new o k).runT P lw es=(k lw.heap.size).runT P { lw with heap:=lw.heap.push o } (es++#[]):=fun es=>by rw[dK];simp
  rcases ih lw.heap.size (hs.2 _) (OW hok hs.1) (TP V o) with h|⟨eL,w',n,r,new,h⟩
  .exact .inl (h.cons _ hl)
  exact .inr ⟨_,_,_,_,_,h.cons _ rfl rfl sN sN hl fun I d es=>by rw[dK];simp only[oW,<-V.size,en];rfl⟩
 |shape r k ih=>
  have hl:∀es,(Sem.shape r k).runT P lw es=(k (lw.shape? r)).runT P lw (es++#[]):=fun es=>by rw[dK];simp
  rcases ih (lw.shape? r) (hs _) hok V with h|⟨eL,w',n,r',new,h⟩
  .exact .inl (h.cons _ hl)
  exact .inr ⟨_,_,_,_,_,h.cons _ rfl rfl (aO _) sN hl fun I d es=>by rw[dK];simp only[Rj,NU V,en]⟩
 |freeze a n k ih=>
  have hl:∀es,(Sem.freeze a n k).runT P lw es=k.runT P (lw.freeze a n) (es++#[]):=fun es=>by rw[dK];simp
  have hz:(lw.freeze a n).heap.size=lw.heap.size/\(lw.freeze a n).tape=lw.tape/\(lw.freeze a n).drawn=lw.drawn:=by unfold World.freeze;split<;>simp
  rcases ih hs (Ha hok a n) (Le V a n) with h|⟨eL,w',n',r',new,h⟩
  .exact .inl (h.cons _ hl)
  refine .inr ⟨_,_,_,_,_,h.cons _ hz.2.1 hz.2.2 oN sN hl fun I d es=>?_⟩;rw[dK];simp only[en];unfold World.freeze;split<;>rfl
 |frozen a k ih=>
  have hl:∀es,(Sem.frozen a k).runT P lw es=(k (lw.frozen? a)).runT P lw (es++#[]):=fun es=>by rw[dK];simp
  rcases ih (lw.frozen? a) (hs _) hok V with h|⟨eL,w',n,r',new,h⟩
  .exact .inl (h.cons _ hl)
  exact .inr ⟨_,_,_,_,_,h.cons _ rfl rfl (aO _) sN hl fun I d es=>by rw[dK];simp only[yM,vJ V,en]⟩
 |getObj r k ih=>
  cases hc:lw.heap[r]? with
  |none=>exact .inl ⟨_,lw,fun es=>⟨_,by rw[dK];simp only[hc];rfl⟩⟩
  |some o=>
   by_cases hcell:∃c t f,o=.cells c t f
   .obtain⟨c,t,f,rfl⟩:=hcell;exact .inl ⟨_,lw,fun es=>⟨_,by rw[dK];simp only[hc];rfl⟩⟩
   have vF:∀c t f,o≠.cells c t f:=fun c t f e=>hcell ⟨c,t,f,e⟩
   have hrun:∀(x:ak) (o':Obj),x.heap[r]?=some o'->(∀c t f,o'≠.cells c t f)->∀es,(Sem.getObj r k).runT P x es=(k o').runT P x (es++#[⟨.obj r,false,o'.isChan⟩]):=fun x o' hx hn es=>by
    rw[dK,hx];cases o'<;>first|exact absurd rfl (hn _ _ _)|(simp only[<-Array.push_eq_append])
   have hev:BX lw.heap.size (⟨.obj r,false,o.isChan⟩:gO):=.inr (.inl ⟨r,rfl,eR hc⟩);have hl:=hrun lw o hc vF;rcases V.at_ r with hv|⟨h1,o',h2,h3⟩
   .have hw:w.heap[r]?=some o:=hv.symm.trans hc
    have afq:Calm P Q (k o)\/Gm (k o):=by
     rcases hok r o hc with ho|rfl
     .exact .inl (hs.1 o ho)
     exact hs.2.symm.imp (·.1) id
    rcases afq with hk|⟨why,hk⟩
    .rcases ih o hk hok V with h|⟨eL,w',n,r',new,h⟩
     .exact .inl (h.cons _ hl)
     exact .inr ⟨_,_,_,_,_,h.cons _ rfl rfl (aO _) (uA hev) hl fun I d es=>hrun (dH w I d) o hw vF es⟩
    exact .inl ⟨why,lw,fun es=>⟨_,by rw[hl,hk];rfl⟩⟩
   obtain rfl:o=.coro none:=bp (hc.symm.trans h1);rcases hs.2 with⟨why,hk⟩|⟨hk,hk2⟩
   .exact .inl ⟨why,lw,fun es=>⟨_,by rw[hl,hk];rfl⟩⟩
   rcases ih (.coro none) hk hok V with h|⟨eL,w',n,r',new,h⟩
   .exact .inl (h.cons _ hl)
   refine .inr ⟨_,_,_,_,_,h.cons _ rfl rfl (aO _) (uA hev) hl fun I d es=>?_⟩;rw[hrun (dH w I d) o' h2 (j3 h3).1 es,hk2 _ h3,(j3 h3).2.2.2];rfl
 |setObj r o k ih=>
  cases hc:lw.heap[r]? with
  |none=>exact .inl ⟨_,lw,fun es=>⟨_,by rw[dK];simp only[hc];rfl⟩⟩
  |some o0=>
   by_cases hcell:∃c t f,o0=.cells c t f
   .obtain⟨c,t,f,rfl⟩:=hcell;exact .inl ⟨_,lw,fun es=>⟨_,by rw[dK];simp only[hc];rfl⟩⟩
   have vF:∀c t f,o0≠.cells c t f:=fun c t f e=>hcell ⟨c,t,f,e⟩
   have hrun:∀(x:ak) (o':Obj),x.heap[r]?=some o'->(∀c t f,o'≠.cells c t f)->∀es,(Sem.setObj r o k).runT P x es=k.runT P { x with heap:=x.heap.setIfInBounds r o } (es++#[⟨.obj r,true,o.isChan⟩]):=fun x o' hx hn es=>by
    rw[dK,hx];cases o'<;>first|exact absurd rfl (hn _ _ _)|(simp only[<-Array.push_eq_append])
   have hw:∃o',w.heap[r]?=some o'/\∀c t f,o'≠.cells c t f:=by
    rcases V.at_ r with hv|⟨h1,o',h2,h3⟩
    .exact⟨o0,hv.symm.trans hc,vF⟩
    exact⟨o',h2,(j3 h3).1⟩
   obtain⟨o',hw,hn'⟩:=hw;have hl:=hrun lw o0 hc vF;rcases ih hs.2 (yK hok hs.1) (zq V r o hs.1) with h|⟨eL,w',n,r',new,h⟩
   .exact .inl (h.cons _ hl)
   exact .inr ⟨_,_,_,_,_,h.cons _ rfl rfl sN (uA (.inr (.inl ⟨r,rfl,by simpa using eR hc⟩))) hl fun I d es=>hrun (dH w I d) o' hw hn' es⟩
 |choose q k ih=>
  by_cases hq:q.forced=true
  .have hl:∀es,(Sem.choose q k).runT P lw es=(k 0).runT P lw (es++#[]):=fun es=>by rw[dK];simp[hq]
   rcases ih 0 (hs 0) hok V with h|⟨eL,w',n,r,new,h⟩
   .exact .inl (h.cons _ hl)
   exact .inr ⟨_,_,_,_,_,h.cons _ rfl rfl (aO _) sN hl fun I d es=>by rw[dK];simp[hq]⟩
  have hl:∀es,(Sem.choose q k).runT P lw es=(k (q.cut (lw.tape lw.drawn q))).runT P { lw with drawn:=lw.drawn+1 } es:=fun es=>by rw[dK];simp[hq]
  have V':jB { lw with drawn:=lw.drawn+1 } w:=⟨V.size,V.os,V.out,V.at_,V.old,V.kept⟩
  rcases ih (q.cut (lw.tape lw.drawn q)) (hs _) (lw:={ lw with drawn:=lw.drawn+1 }) hok V' with⟨why,eL,h⟩|⟨eL,w',n,r,new,h⟩
  .exact .inl ⟨why,eL,fun es=>by rw[hl];exact h es⟩
  refine .inr ⟨eL,w',n+1,r,new,h.tape,by rw[h.drawn];simp only[];omega,h.grows,h.ok,h.evs,h.ui,h.res,fun es=>by rw[hl,h.lone],fun I d ha es=>?_⟩;have h0:lw.tape lw.drawn=I d:=ha 0 oN;have:=h.many I (d+1) (PE ha) es;rw[dK];simp only[hq,bG,if_false,zM,qq,<-h0];rw[show d+(n+1)=d+1+n by omega];exact this
 |sys c k ih=>
  obtain⟨x,hx1,hx2⟩:=Lj hs.1 lw;have hl:∀es,(Sem.sys c k).runT P lw es=(k x).runT P lw (es++#[⟨.output,true,false⟩]):=fun es=>by rw[dK,hx2];simp
  have hm:∀I d es,(Sem.sys c k).runT P (dH w I d) es=(k x).runT P (dH w I d) (es++#[⟨.output,true,false⟩]):=fun I d es=>by
   obtain⟨y,hy1,hy2⟩:=Lj hs.1 (dH w I d)
   have:y=x:=by
    simp only[aaN,<-V.os] at hy1;rw[hx1] at hy1;cases hy1;rfl
   subst this;rw[dK,hy2];simp
  rcases ih x (hs.2 x) hok V with h|⟨eL,w',n,r,new,h⟩
  .exact .inl (h.cons _ hl)
  exact .inr ⟨_,_,_,_,_,h.cons _ rfl rfl (aO _) (uA (.inr (.inr (.inl rfl)))) hl hm⟩
 |program k ih=>
  have hl:∀es,(Sem.program k).runT P lw es=(k P).runT P lw (es++#[]):=fun es=>by rw[dK];simp
  rcases ih P hs hok V with h|⟨eL,w',n,r,new,h⟩
  .exact .inl (h.cons _ hl)
  exact .inr ⟨_,_,_,_,_,h.cons _ rfl rfl (aO _) sN hl fun I d es=>by rw[dK];simp⟩
 |mark m k ih=>
  have hl:∀(x:ak) es,(Sem.mark m k).runT P x es=k.runT P x (es++#[⟨.mark m,false,true⟩]):=fun x es=>by rw[dK];simp
  rcases ih hs.2 hok V with h|⟨eL,w',n,r,new,h⟩
  .exact .inl (h.cons _ (hl lw))
  refine .inr ⟨_,_,_,_,_,h.cons _ rfl rfl (aO _) (uA ?_) (hl lw) fun I d es=>hl _ es⟩;rcases hs.1 with rfl|⟨f,rfl⟩
  .exact .inr (.inr (.inr (.inl rfl)))
  exact .inr (.inr (.inr (.inr ⟨f,rfl⟩)))
 |halt h=>exact .inr ⟨_,_,_,_,_,QP.halted hok V hs (fun es=>by rw[dK]) fun I d es=>by rw[dK]⟩
end
def iX:Item->Bool
 |.code c=>eb c
 |.inLoop c|.inScope c=>eb c
 |.inRegion aP _=>aP.all Bd
 |.inBlock _|.inRangeFunc _|.endRangeFunc _|.beginRound=>true
 |.call ..|.extern ..=>false
structure dJ(fr:b_):Prop where
 todo:fr.todo.all iX=true
 defers:fr.defers.all pZ=true
structure A0(g:aH):Prop where
 frame:dJ g.frame
 callers:∀c∈g.callers,dJ c
 status:g.status=.running\/g.status=.finished
structure Quiet(P:aN):Prop extends Wm P where
 ahead:P.follows .staticDataAhead=true
 steps:∀g,P.stepOf g=none
 enters:∀todo,NoEnter P todo
structure Base[vh](lw eL w':ak)(k:Nat)(es:Array gO):Prop where
 tape:eL.tape=lw.tape
 drawn:eL.drawn=lw.drawn+k
 grows:lw.heap.size<=eL.heap.size
 ok:dI eL
 evs:∀e∈es,BX eL.heap.size e
 ui:jB eL w'
def I_[vh](P:aN)(lw:ak)(s:GStep)(f:(Nat->dQ->Nat)->Nat->GStep):Prop:=
 match s with
 |.ended ..=>True
 |.spawn ..=>True
 |.go g' eL es=>g'.dyingOn P\/(A0 g'/\g'.dying=none/\∃w' k,Base lw eL w' k es/\∀I d,Agree k lw.tape lw.drawn I d->f I d=.go g' (dH w' I (d+k)) es)
 |.comm g' cs b sh eL es=>A0 g'/\(g'.dying=none/\g'.status=.running)/\∃w' k,Base lw eL w' k es/\∀I d,Agree k lw.tape lw.drawn I d->f I d=.comm g' cs b sh (dH w' I (d+k)) es
 |_=>False
section frames
variable{fr:b_}
theorem dJ.finish(h:dJ fr)(v:aj):dJ (fr.finish v):=by
 obtain⟨ht,hd⟩:=h;unfold Frame.finish;split
 .rename_i e;rw[e] at ht;simp only[dX,aJ] at ht;refine⟨?_,hd⟩;simp only[dX,aJ];exact ht
 .rename_i e;rw[e] at ht;simp only[dX,aJ] at ht;refine⟨?_,hd⟩;simp only[dX,aJ];exact ht
 .rename_i e;rw[e] at ht;simp only[dX,aJ] at ht;exact⟨ht.2,hd⟩
 .rename_i e;rw[e] at ht;simp only[dX,aJ] at ht;exact absurd ht.1 (by simp[iX])
 .rename_i e;rw[e] at ht;simp only[dX,aJ] at ht;exact absurd ht.1 (by simp[iX])
 exact⟨ht,hd⟩
theorem dJ.raise(h:dJ fr)(c:List PanicEntry):dJ (fr.raise c):=by
 unfold Frame.raise;split<;>exact⟨h.todo,h.defers⟩
theorem dJ.mode(h:dJ fr)(m:FrameMode):dJ { fr with mode:=m }:=⟨h.todo,h.defers⟩
theorem oI{P:aN}(T:Quiet P)(f:d_)(args:Array aj)(kind:CallKind):dJ (eG P f args kind):=by
 refine⟨?_,rfl⟩;unfold eG;simp only[dX,List.all_nil,Bool.and_true,iX];cases hf:P.funcs[f]? with
 |none=>rfl
 |some fn=>
  cases hb:fn.body with
  |none=>simp[hb,eb]
  |some c=>simpa [hb] using T.body f fn c hf hb
theorem ya{l:Nat}{f:d_}{tmps:Array aj}{a b:Code}(ha:eb a=true)(hb:eb b=true)(kind:CallKind):dJ (Frame.round l f tmps a b kind):=by
 refine⟨?_,rfl⟩;simp[Frame.round,iX,ha,hb]
theorem BA{id:Nat}:∀ {k k':List Item},k.all iX=true->exitTo id k=some k'->k'.all iX=true
 |[],k',_,h=>by cases h
 |x::k,k',hk,h=>by
  simp only[dX,aJ] at hk;unfold exitTo at h;split at h
  .rename_i e;cases e;split at h
   .cases h;exact hk.2
   exact BA hk.2 h
  .rename_i e;cases e;exact BA hk.2 h
  rename_i e;cases e
theorem uz:∀ {c:Code} {l:Nat} {c':Code},eb c=true->A1 c l=some c'->eb c'=true
 |.seq a b,l,c',hc,h=>by
  simp only[eb,aJ] at hc;unfold A1 at h;split at h
  .rename_i rest hr;cases h;simp only[eb,aJ];exact⟨uz hc.1 hr,hc.2⟩
  exact uz hc.2 h
 |.label l',l,c',hc,h=>by
  unfold A1 at h;split at h
  .cases h;rfl
  cases h
 |.region ..,l,c',hc,h=>by unfold A1 at h;cases h
 |.cond ..,l,c',hc,h=>by unfold A1 at h;cases h
 |.block ..,l,c',hc,h=>by unfold A1 at h;cases h
 |.loop ..,l,c',hc,h=>by unfold A1 at h;cases h
 |.rangeFunc ..,l,c',hc,h=>by unfold A1 at h;cases h
 |.scope ..,l,c',hc,h=>by unfold A1 at h;cases h
 |.exit ..,l,c',hc,h=>by unfold A1 at h;cases h
 |.goto ..,l,c',hc,h=>by unfold A1 at h;cases h
 |.ret,l,c',hc,h=>by unfold A1 at h;cases h
 |.skip,l,c',hc,h=>by unfold A1 at h;cases h
 |.refuse ..,l,c',hc,h=>by unfold A1 at h;cases h
theorem Bu{l:Nat}:∀ {k k':List Item},k.all iX=true->gotoIn l k=some k'->k'.all iX=true
 |[],k',_,h=>by cases h
 |x::k,k',hk,h=>by
  have hk0:=hk;simp only[dX,aJ] at hk;unfold gotoIn at h;split at h
  .rename_i body k0 e;cases e;split at h
   .rename_i rest hr;cases h;simp only[dX,aJ];exact⟨uz hk.1 hr,hk⟩
   exact Bu hk.2 h
  .rename_i e;cases e;exact Bu hk.2 h
  rename_i e;cases e
theorem mL:∀ {cs:List b_} {fr:b_} {v:aj} {cs':List b_},(∀c∈cs,dJ c)->tryRecover fr cs=some (v,cs')->∀c∈cs',dJ c
 |[],fr,v,cs',h,e=>by
  unfold tryRecover at e;split at e
  .rename_i h1;cases h1
  .rename_i h1;cases h1
  cases e
 |c0::rest,fr,v,cs',h,e=>by
  unfold tryRecover at e;split at e
  .rename_i h1;cases h1;split at e
   .cases e;intro c hc;rcases cj.1 hc with rfl|hc
    .exact(h c0 (dF ..)).mode _
    exact h c (bT _ hc)
   cases e
  .rename_i h1;cases h1;obtain⟨⟨v',r'⟩,hr,he⟩:=eP.1 e;cases he;intro c hc;rcases cj.1 hc with rfl|hc
   .exact h c (dF ..)
   exact mL (fun c hc=>h c (bT _ hc)) hr c hc
  cases e
theorem lD:∀ {cs:List b_} {l:Nat} {v:aj} {cs':List b_},(∀c∈cs,dJ c)->tryRecoverLoop l cs=some (v,cs')->∀c∈cs',dJ c
 |[],l,v,cs',h,e=>by cases e
 |c0::rest,l,v,cs',h,e=>by
  unfold tryRecoverLoop at e;obtain⟨⟨v',r'⟩,hr,he⟩:=eP.1 e;cases he;have Aa:∀c∈rest,dJ c:=fun c hc=>h c (bT _ hc);intro c hc;rcases cj.1 hc with rfl|hc
  .exact h c (dF ..)
  split at hr
  .exact lD Aa hr c hc
  .split at hr
   .exact mL Aa hr c hc
   exact lD Aa hr c hc
  exact lD Aa hr c hc
end frames
def mem_seen{p:aN}{fn:d_}{es:Array gO}{e:gO}(h:e∈seen p fn es):e∈es:=by
 unfold seen at h;revert h
 have:∀(l:List gO) (acc:Bool × Array gO),e∈(l.foldl (fun(x:Bool × Array gO) (e:gO)=>(match x with
   |(q,kept)=>match e.loc with
    |.mark (.extern f)=>((p.funcs[f]?).any (·.norace),kept)
    |_=>(q,if q && !e.sync then kept else kept.push e):Bool × Array gO)) acc).2->e∈acc.2\/e∈l:=by
  intro l
  induction l with
  |nil=>intro acc h;exact .inl h
  |cons x l ih=>
   intro acc h;rw[List.foldl_cons] at h;rcases ih _ h with h|h
   .obtain⟨q,kept⟩:=acc;dsimp only at h;split at h
    .exact .inl h
    dsimp only at h;split at h
    .exact .inl h
    rcases Array.mem_push.1 h with h|rfl
    .exact .inl h
    exact .inr (dF ..)
   exact .inr (bT _ h)
 intro h;dsimp only at h;rw[<-Array.foldl_toList] at h;rcases this _ _ h with h|h
 .simp at h
 simpa using h
section
variable{P:aN}{lw w:ak}
theorem I6[vh](hok:dI lw)(V:jB lw w):Base lw lw w 0 #[]:=⟨rfl,rfl,aO _,hok,sN,V⟩
theorem TW[vh](hok:dI lw)(V:jB lw w){g:aH}(hg:A0 g)(hd:g.dying=none){f}(hf:∀I d,f I d=.go g (dH w I d) #[]):I_ P lw (.go g lw #[]) f:=
 .inr ⟨hg,hd,w,0,I6 hok V,fun I d _=>hf I d⟩
theorem QP.base[vh]{α:Type}{Q:α->Prop}{s:iT α}{eL w':ak}{k:Nat}{r:Except Halt α}{new:Array gO}(h:QP P Q s lw w eL w' k r new){es:Array gO}(hes:∀e∈es,e∈new):Base lw eL w' k es:=
 ⟨h.tape,h.drawn,h.grows,h.ok,fun e he=>h.evs e (hes e he),h.ui⟩
def lL(P:aN){α:Type}(K:Result α × Array gO->GStep)(r:Except Halt α):Prop:=∀x new,(∃o y es',K (Bf r x,new)=.ended o y es')\/(∃g y es',K (Bf r x,new)=.go g y es'/\g.dyingOn P)\/(∃g c y es',K (Bf r x,new)=.spawn g c y es')\/
   (∃g es',A0 g/\g.dying=none/\(∀e∈es',e∈new)/\∀y,K (Bf r y,new)=.go g y es')\/
   (∃g cs b sh es',A0 g/\(g.dying=none/\g.status=.running)/\(∀e∈es',e∈new)/\∀y,K (Bf r y,new)=.comm g cs b sh y es')
theorem lL.ended{α:Type}{K:Result α × Array gO->GStep}{r:Except Halt α}(h:∀x new,∃o y es',K (Bf r x,new)=.ended o y es'):lL P K r:=fun x new=>.inl (h x new)
theorem lL.FE{α:Type}{K:Result α × Array gO->GStep}{r:Except Halt α}(h:∀x new,∃g y es',K (Bf r x,new)=.go g y es'/\g.dyingOn P):lL P K r:=fun x new=>.inr (.inl (h x new))
theorem lL.go{α:Type}{K:Result α × Array gO->GStep}{r:Except Halt α}{g:aH}(hg:A0 g)(hd:g.dying=none)(es':Array gO->Array gO)(hes:∀new e,e∈es' new->e∈new)(h:∀y new,K (Bf r y,new)=.go g y (es' new)):lL P K r:=
 fun x new=>.inr (.inr (.inr (.inl ⟨g,es' new,hg,hd,hes new,fun y=>h y new⟩)))
theorem zw[vh]{α:Type}{Q:α->Prop}{s:iT α}(hs:Calm P Q s)(hok:dI lw)(V:jB lw w)(F:ak->GStep)
  (h:∃K:Result α × Array gO->GStep,(∀y,F y=K (s.runT P y #[]))/\(∀why x es,∃o es',K (.halt (.stuck why) x,es)=.ended o x es')/\∀r,OkR Q r->lL P K r) :
  I_ P lw (F lw) (fun I d=>F (dH w I d)):=by
 obtain⟨K,hrun,Qx,hK⟩:=h;simp only[hrun];rcases xk hs hok V with⟨why,eL,h⟩|⟨eL,w',k,r,new,h⟩
 .obtain⟨es,he⟩:=h #[];rw[he];obtain⟨o,es',h'⟩:=Qx why eL es;rw[h'];trivial
 have hl:=h.lone #[];rw[fD] at hl;rw[hl];have hm:∀I d,Agree k lw.tape lw.drawn I d->K (s.runT P (dH w I d) #[])=K (Bf r (dH w' I (d+k)),new):=fun I d ha=>by rw[h.many I d ha #[],fD]
 rcases hK r h.res eL new with⟨o,y,es',e⟩|⟨g,y,es',e,hd⟩|⟨g,c,y,es',e⟩|⟨g,es',hg,hd,hes,e⟩|⟨g,cs,b,sh,es',hg,hd,hes,e⟩
 .rw[e];trivial
 .rw[e];exact .inl hd
 .rw[e];trivial
 .rw[e eL];exact .inr ⟨hg,hd,w',k,h.base hes,fun I d ha=>(hm I d ha).trans (e _)⟩
 rw[e eL];exact⟨hg,hd,w',k,h.base hes,fun I d ha=>(hm I d ha).trans (e _)⟩
theorem Al(fr:b_)(ahead:List ByteArray)(m:String)(whole:Bool)(w:ak):∃g y es',dieOf fr ahead m whole w=.go g y es'/\g.dyingOn P:=⟨_,_,_,rfl,.inl rfl,_,rfl,rfl,NoEnter.nil P⟩
theorem Dv(fr:b_)(m:String)(w:ak):∃g y es',endThrow fr m w=.go g y es'/\g.dyingOn P:=Al _ _ _ _ _
theorem uX(fr:b_)(cs:List b_)(d:Option Dying)(m:String)(w:ak) :
  (∃o y es',endFatal P fr cs d m w=.ended o y es')\/∃g y es',endFatal P fr cs d m w=.go g y es'/\g.dyingOn P:=by
 unfold endFatal
 extract_lets
 repeat' (first|(split)|exact .inl ⟨_,_,_,rfl⟩|exact .inr (Al _ _ _ _ _))
theorem M0(T:Quiet P)(fr:b_)(cs:List b_)(d:Option Dying)(g:Nat)(w:ak):∃o es',early P fr cs d g w=.ended o w es':=by
 unfold early;simp only[T.ahead,T.steps,vH,bG,if_false];exact⟨_,_,rfl⟩
theorem fJ{fr:b_}{cs:List b_}{d:Option Dying}{o}(h:dJ fr)(hc:∀c∈cs,dJ c):A0 { frame:=fr,callers:=cs,status:=.running,dying:=d,offers:=o }:=⟨h,hc,.inl rfl⟩
theorem D8{fr:b_}{cs:List b_}(h:dJ fr)(hc:∀c∈cs,dJ c):∀c∈fr::cs,dJ c:=fun c hx=>by
 rcases cj.1 hx with rfl|hx
 .exact h
 exact hc c hx
theorem GV{c:Prop}[Decidable c]{es:Array gO}{e:gO}(h:e∈(if c then #[] else es)):e∈es:=by
 split at h
 .simp at h
 exact h
theorem tK{es:Array gO}{p:aN}{fn:d_}{c:Prop}[Decidable c]{e:gO}(h:e∈seen p fn (if c then #[] else es)++#[]):e∈es:=by
 rw[en] at h;exact GV (mem_seen h)
theorem mem_row{es:Array gO}{p:aN}{fn:d_}{c:Prop}[Decidable c]:∀e,e∈seen p fn (if c then #[] else es)++#[]->e∈es:=fun e=>tK
theorem xo[vh](T:Quiet P){fr:b_}{cs:List b_}(hfr:dJ fr)(hcs:∀c∈cs,dJ c){s:iT Next}(hs:Calm P eY s)(hok:dI lw)(V:jB lw w) :
  I_ P lw (eC P true fr cs none s lw) (fun I d=>eC P true fr cs none s (dH w I d)):=by
 refine zw hs hok V (fun y=>eC P true fr cs none s y) ⟨?K,fun y=>?_,?_,?_⟩
 rotate_left
 .unfold eC;simp only[if_true];generalize s.runT P y #[]=x;exact rfl
 .intro why x es;exact⟨_,_,rfl⟩
 .intro r hr;cases r with
  |ok n=>
   cases n with
   |value v=>exact lL.go (fJ (hfr.finish v) hcs) rfl _ (fun _=>mem_row) fun y new=>rfl
   |skip=>exact lL.go (fJ (hfr.finish undef) hcs) rfl _ (fun _=>mem_row) fun y new=>rfl
   |enter f args=>exact lL.go (fJ (oI T f args _) (D8 hfr hcs)) rfl _ (fun _=>mem_row) fun y new=>rfl
   |round l f tmps a b=>exact lL.go (fJ (ya hr.1 hr.2 _) (D8 hfr hcs)) rfl _ (fun _=>mem_row) fun y new=>rfl
   |defer d=>exact lL.go (fJ (dJ.finish (fr:={ fr with defers:=d::fr.defers }) ⟨hfr.todo,by rw[dX,hfr.defers,Bool.and_true];exact hr⟩ undef) hcs) rfl _ (fun _=>mem_row) fun y new=>rfl
   |recover=>
    intro x new
    have key:∀X:Option (aj × List b_),(∀v cs',X=some (v,cs')->∀c∈cs',dJ c)->∀es:Array gO,(∀e∈es++#[],e∈new)->
      ∃g es',A0 g/\g.dying=none/\(∀e∈es',e∈new)/\∀y,Ce es (match X with
       |some (v,callers)=>GStep.go { frame:=fr.finish v,callers,status:=.running,dying:=none } y
       |none=>GStep.go { frame:=fr.finish .nilIface,callers:=cs,status:=.running,dying:=none } y)=.go g y es':=by
     intro X hX es hes;cases X with
     |none=>exact⟨_,_,fJ (hfr.finish .nilIface) hcs,rfl,hes,fun y=>rfl⟩
     |some z=>exact⟨_,_,fJ (hfr.finish z.1) (hX z.1 z.2 rfl),rfl,hes,fun y=>rfl⟩
    refine .inr (.inr (.inr (.inl ?_)));cases hro:fr.roundOf with
    |none=>
     simp only[Bf,hro];exact key (tryRecover fr cs) (fun v cs' e=>mL hcs e) _ fun e=>tK
    |some l=>
     by_cases hf:P.follows .rangeFuncRecover=true
     .simp only[Bf,hro,hf,if_true];exact key (tryRecover fr cs) (fun v cs' e=>mL hcs e) _ fun e=>tK
     simp only[Bf,hro,hf,if_false];exact key (tryRecoverLoop l cs) (fun v cs' e=>lD hcs e) _ fun e=>tK
   |comm c b sh=>exact fun x new=>.inr (.inr (.inr (.inr ⟨_,_,_,_,_,fJ hfr hcs,⟨rfl,rfl⟩,fun e=>tK,fun y=>rfl⟩)))
   |spawn d=>
    intro x new;dsimp only[Bf];generalize (P.follows .goNilFatal&&_&&d.args.isEmpty&&fr.noResult P)=c;cases c with
    |true=>
     obtain⟨g,y,es',e,hd⟩:=Dv (P:=P) fr "go of nil func value" x;exact .inr (.inl ⟨g,y,_,by rw[if_pos rfl,e];rfl,hd⟩)
    |false=>exact .inr (.inr (.inl ⟨_,_,_,_,rfl⟩))
   |_=>exact hr.elim
  |error h=>
   cases h with
   |panic v=>exact lL.go (fJ (hfr.raise _) hcs) rfl _ (fun _=>mem_row) fun y new=>rfl
   |goexit=>exact lL.go (fJ (hfr.raise _) hcs) rfl _ (fun _=>mem_row) fun y new=>rfl
   |blocked=>exact absurd rfl hr.1
   |waiting=>exact absurd rfl hr.2
   |exit c=>exact lL.ended fun x new=>⟨_,_,_,rfl⟩
   |fatal m=>
    intro x new;dsimp only[Bf];rcases uX (P:=P) fr cs none m x with⟨o,y,es',e⟩|⟨g,y,es',e,hd⟩
    .rw[e];exact .inl ⟨_,_,_,rfl⟩
    rw[e];exact .inr (.inl ⟨_,_,_,rfl,hd⟩)
   |throw m=>exact lL.FE fun x new=>⟨_,_,_,rfl,.inl rfl,_,rfl,rfl,NoEnter.nil P⟩
   |unsupported u=>
    intro x new;dsimp only[Bf];cases u with
    |initOrder g=>
     dsimp only;obtain⟨o,es',e⟩:=M0 T fr cs none g x;rw[e];exact .inl ⟨_,_,_,rfl⟩
    |_=>exact .inl ⟨_,_,_,rfl⟩
   |stuck s=>exact lL.ended fun x new=>⟨_,_,_,rfl⟩
end
section
variable{P:aN}{lw w:ak}
theorem yb(T:Quiet P){fr:b_}{cs:List b_}(hfr:dJ fr)(hcs:∀c∈cs,dJ c)(v:aj) :
  (∃g,A0 g/\g.dying=none/\∀y,uL P true fr cs none v y=.go g y #[])\/(∀y,∃o,uL P true fr cs none v y=.ended o y #[]):=by
 cases cs with
 |cons c rest=>
  have hc:=hcs c (dF ..);have Aa:∀c∈rest,dJ c:=fun x hx=>hcs x (bT _ hx);cases hk:fr.kind with
  |normal=>exact .inl ⟨_,fJ (hc.finish v) Aa,rfl,fun y=>by simp only[uL,hk];rfl⟩
  |wrapped=>exact .inl ⟨_,fJ (hc.finish v) Aa,rfl,fun y=>by simp only[uL,hk];rfl⟩
  |early=>exact .inl ⟨_,fJ hc Aa,rfl,fun y=>by simp only[uL,hk];rfl⟩
  |_=>
   refine .inl ⟨_,fJ ?_ Aa,rfl,fun y=>by simp only[uL,hk];rfl⟩;split
   .split<;>exact hc.mode _
   exact hc
 |nil=>
  have key:fr.kind≠.report->∀y,uL P true fr [] none v y=(match P.inits.idxOf? fr.fn with
    |some k=>.go { frame:=eG P (P.initFrom (k+1)) #[] .normal,callers:=[],status:=.running,dying:=none } y
    |none=>.ended (.done v) y):=fun hk y=>by
   unfold uL;cases rA:fr.kind<;>first|exact absurd rA hk|rfl
  by_cases hk:fr.kind=.report
  .exact .inr fun y=>⟨.stuck "report: Error or String returned no string" "",by obtain⟨fn,tmps,todo,defers,mode,kind,roundOf⟩:=fr;simp only at hk;subst hk;cases v<;>rfl⟩
  .cases hi:P.inits.idxOf? fr.fn with
   |some k=>exact .inl ⟨_,fJ (cs:=[]) (oI T _ _ _) sN,rfl,fun y=>by rw[key hk,hi]⟩
   |none=>exact .inr fun y=>⟨_,by rw[key hk,hi]⟩
theorem Ak[vh](T:Quiet P){fr:b_}{cs:List b_}(hfr:dJ fr)(hcs:∀c∈cs,dJ c){s:iT aj}(hs:Calm P Any s)(hok:dI lw)(V:jB lw w)(F:ak->GStep)
  (h:∃K:Result aj × Array gO->GStep,(∀y,F y=K (s.runT P y #[]))/\(∀v es,∃es',(∀e∈es'++#[],e∈es)/\∀x,K (.ok v x,es)=.after es' (uL P true fr cs none v x))/\(∀h x es,∃o es',K (.halt h x,es)=.ended o x es')) :
  I_ P lw (F lw) (fun I d=>F (dH w I d)):=by
 obtain⟨K,h1,h2,h3⟩:=h;refine zw hs hok V F ⟨K,h1,fun why x es=>h3 _ x es,fun r hr=>?_⟩;cases r with
 |error h=>exact lL.ended fun x new=>by obtain⟨o,es',e⟩:=h3 h x new;exact⟨_,_,_,e⟩
 |ok v=>
  intro x new;rcases yb T hfr hcs v with⟨g,hg,hgd,e⟩|e
  .refine .inr (.inr (.inr (.inl ?_)));obtain⟨es',he,e2⟩:=h2 v new;exact⟨g,_,hg,hgd,he,fun y=>by rw[show Bf (.ok v) y=.ok v y from rfl,e2,e];rfl⟩
  obtain⟨o,e⟩:=e x;obtain⟨es',he,e2⟩:=h2 v new;exact .inl ⟨o,x,_,by rw[show Bf (.ok v) x=.ok v x from rfl,e2,e];rfl⟩
theorem fZ{es:Array gO}{p:aN}{fn:d_}:∀e,e∈seen p fn es++#[]->e∈es:=fun e h=>by
 rw[en] at h;exact mem_seen h
theorem BQ[vh](T:Quiet P){fr:b_}{cs:List b_}(hfr:dJ fr)(hcs:∀c∈cs,dJ c){d:Deferred}(hd:pZ d=true)(hok:dI lw)(V:jB lw w) :
  I_ P lw (callDeferred P fr cs none d lw) (fun I d'=>callDeferred P fr cs none d (dH w I d')):=by
 by_cases hn:((d.target matches .nil)&&(fr.mode matches .panicking _))=true
 .have:∀y,∃o,callDeferred P fr cs none d y=.ended o y #[]:=fun y=>⟨_,by unfold callDeferred;exact if_pos hn⟩
  obtain⟨o,e⟩:=this lw;rw[e];trivial
 refine zw (rY T.toWm d.target d.args hd) hok V (fun y=>callDeferred P fr cs none d y) ⟨?K,fun y=>?_,?_,?_⟩
 rotate_left
 .unfold callDeferred;refine(if_neg hn).trans ?_;generalize (invoke d.target d.args).runT P y #[]=x;exact rfl
 .intro why x es;exact⟨_,_,rfl⟩
 .intro r hr;cases r with
  |ok n=>
   cases n with
   |enter f args=>exact lL.go (fJ (oI T f args _) (D8 hfr hcs)) rfl _ (fun _=>fZ) fun y new=>rfl
   |round l f tmps a b=>exact lL.go (fJ (ya hr.1 hr.2 _) (D8 hfr hcs)) rfl _ (fun _=>fZ) fun y new=>rfl
   |recover=>
    intro x new;refine .inr (.inr (.inr (.inl ?_)));cases hm:fr.mode with
    |returning=>
     cases ht:tryRecover fr cs with
     |none=>exact⟨_,_,fJ hfr hcs,rfl,fZ,fun y=>by simp only[Bf,hm,ht];rfl⟩
     |some z=>exact⟨_,_,fJ hfr (mL (v:=z.1) (cs':=z.2) hcs ht),rfl,fZ,fun y=>by simp only[Bf,hm,ht];rfl⟩
    |_=>exact⟨_,_,fJ hfr hcs,rfl,fZ,fun y=>by simp only[Bf,hm];rfl⟩
   |value v=>exact lL.go (fJ hfr hcs) rfl _ (fun _=>fZ) fun y new=>rfl
   |skip=>exact lL.go (fJ hfr hcs) rfl _ (fun _=>fZ) fun y new=>rfl
   |defer d=>exact lL.go (fJ hfr hcs) rfl _ (fun _=>fZ) fun y new=>rfl
   |comm c b sh=>exact lL.go (fJ hfr hcs) rfl _ (fun _=>fZ) fun y new=>rfl
   |spawn d=>exact lL.go (fJ hfr hcs) rfl _ (fun _=>fZ) fun y new=>rfl
   |_=>exact hr.elim
  |error h=>
   cases h with
   |panic v=>exact lL.go (fJ (hfr.raise _) hcs) rfl _ (fun _=>fZ) fun y new=>rfl
   |goexit=>exact lL.go (fJ (hfr.raise _) hcs) rfl _ (fun _=>fZ) fun y new=>rfl
   |blocked=>exact absurd rfl hr.1
   |waiting=>exact absurd rfl hr.2
   |exit c=>exact lL.ended fun x new=>⟨_,_,_,rfl⟩
   |fatal m=>
    intro x new;dsimp only[Bf];rcases uX (P:=P) fr cs none m x with⟨o,y,es',e⟩|⟨g,y,es',e,hd⟩
    .rw[e];exact .inl ⟨_,_,_,rfl⟩
    rw[e];exact .inr (.inl ⟨_,_,_,rfl,hd⟩)
   |throw m=>exact lL.FE fun x new=>⟨_,_,_,rfl,.inl rfl,_,rfl,rfl,NoEnter.nil P⟩
   |unsupported u=>exact lL.ended fun x new=>⟨_,_,_,rfl⟩
   |stuck s=>exact lL.ended fun x new=>⟨_,_,_,rfl⟩
theorem qm[vh]{g:aH}(hok:dI lw)(V:jB lw w)(hg:A0 g)(hgd:g.dying=none)(F:ak->GStep)(h:∀y,F y=.go g y #[]):I_ P lw (F lw) (fun I d=>F (dH w I d)):=by
 rw[h lw];exact TW hok V hg hgd fun I d=>h _
theorem l5[vh](F:ak->GStep)(h:∀y,∃o y' es,F y=.ended o y' es):I_ P lw (F lw) (fun I d=>F (dH w I d)):=by
 obtain⟨o,y',es,e⟩:=h lw;rw[e];trivial
theorem GF[vh](F:ak->GStep)(h:(∃o y' es,F lw=.ended o y' es)\/∃g y es,F lw=.go g y es/\g.dyingOn P):I_ P lw (F lw) (fun I d=>F (dH w I d)):=by
 rcases h with⟨o,y',es,e⟩|⟨g,y,es,e,hd⟩
 .rw[e];trivial
 rw[e];exact .inl hd
theorem NW[vh](T:Quiet P){fr:b_}{cs:List b_}(hfr:dJ fr)(hcs:∀c∈cs,dJ c)(hok:dI lw)(V:jB lw w) :
  I_ P lw (mg P true fr cs none lw) (fun I d=>mg P true fr cs none (dH w I d)):=by
 obtain⟨ft,fd⟩:=hfr;obtain⟨fn,tmps,todo,defers,mode,kind,roundOf⟩:=fr;simp only at ft fd;cases defers with
 |cons d ds=>
  simp only[dX,aJ] at fd;obtain⟨target,args⟩:=d;cases target with
  |collected block=>
   refine zw (P:=P) (Ax block) hok V (fun y=>mg P true _ cs none y) ⟨?K,fun y=>?_,?_,?_⟩
   rotate_left
   .unfold mg;dsimp only;generalize (Instr.takeDeferred block).runT P y #[]=x;exact rfl
   .intro why x es;exact⟨_,_,rfl⟩
   .intro r hr;cases r with
    |ok calls=>exact lL.go (fJ ⟨ft,by show(calls++ds).all pZ=true;rw[List.all_append,fd.2,Bool.and_true];exact hr⟩ hcs) rfl _ (fun _=>fZ) fun y new=>rfl
    |error h=>exact lL.ended fun x new=>⟨_,_,_,rfl⟩
  |_=>exact BQ T (fr:=⟨fn,tmps,todo,ds,mode,kind,roundOf⟩) ⟨ft,fd.2⟩ hcs fd.1 hok V
 |nil=>
  cases mode with
  |run=>exact l5 (fun y=>mg P true _ cs none y) fun y=>⟨_,_,_,rfl⟩
  |panicking chain=>
   by_cases hc:(Frame.catches P ⟨fn,tmps,todo,[],.panicking chain,kind,roundOf⟩)=true
   .exact l5 (fun y=>mg P true _ cs none y) fun y=>⟨_,_,_,by unfold mg;simp only[hc,if_true];rfl⟩
   .cases cs with
    |cons c rest=>
     exact qm hok V (fJ ((hcs c (dF ..)).raise chain) fun x hx=>hcs x (bT _ hx)) rfl (fun y=>mg P true _ _ none y) fun y=>by unfold mg;simp only[hc];rfl
    |nil=>
     by_cases hg:(chain.head?.any (·.goexit))=true
     .exact qm (g:=⟨⟨fn,tmps,todo,[],.panicking chain,kind,roundOf⟩,[],.finished,none,none⟩) hok V ⟨⟨ft,rfl⟩,sN,.inr rfl⟩ rfl (fun y=>mg P true _ _ none y) fun y=>by unfold mg;simp only[hc,hg,if_true];rfl
     refine GF (fun y=>mg P true _ [] none y) ?_;unfold mg;simp only[hc,hg,if_false,bG];split
     .exact .inr ⟨_,_,_,rfl,.inl rfl,_,rfl,rfl,T.enters _⟩
     .exact .inl ⟨_,_,_,rfl⟩
     exact .inl ⟨_,_,_,rfl⟩
  |returning=>
   cases hf:P.funcs[fn]? with
   |none=>
    rcases yb T (fr:=⟨fn,tmps,todo,[],.returning,kind,roundOf⟩) ⟨ft,rfl⟩ hcs (tmps.getD 0 undef) with⟨g,hg,hgd,e⟩|e
    .exact qm hok V hg hgd (fun y=>mg P true _ cs none y) fun y=>by unfold mg;simp only[hf];exact e y
    exact l5 (fun y=>mg P true _ cs none y) fun y=>by
     obtain⟨o,e⟩:=e y;exact⟨o,y,#[],by unfold mg;simp only[hf];exact e⟩
   |some fn'=>
    refine Ak T (fr:=⟨fn,tmps,todo,[],.returning,kind,roundOf⟩) ⟨ft,rfl⟩ hcs (Ay fn' tmps) hok V (fun y=>mg P true _ cs none y) ⟨?K2,fun y=>?_,?_,?_⟩
    rotate_left
    .unfold mg;simp only[hf];generalize (results fn' tmps).runT P y #[]=x;exact rfl
    .intro v es;exact⟨_,fZ,fun x=>rfl⟩
    intro h x es;cases h<;>exact⟨_,_,rfl⟩
end
section
variable{P:aN}{lw w:ak}
theorem Qg{x:Item}{l:List Item}(h:(x::l).all iX=true):iX x=true/\l.all iX=true:=by
 simpa only[dX,aJ] using h
theorem Rw[vh](T:Quiet P){fr:b_}{cs:List b_}(hfr:dJ fr)(hcs:∀c∈cs,dJ c)(hok:dI lw)(V:jB lw w){l:Nat}(jump:Option Code)(hj:jump.all eb=true)(F:ak->GStep)
  (h:∃K:Result aj × Array gO->GStep,(∀y,F y=K ((Instr.endRound l jump).runT P y #[]))/\(∀v es,∃es',(∀e∈es'++#[],e∈es)/\∀x,K (.ok v x,es)=.after es' (uL P true fr cs none v x))/\(∀h x es,∃o es',K (.halt h x,es)=.ended o x es')) :
  I_ P lw (F lw) (fun I d=>F (dH w I d)):=Ak T hfr hcs (Hn l jump hj) hok V F h
theorem Un[vh](T:Quiet P){fr:b_}{cs:List b_}(hfr:dJ fr)(hcs:∀c∈cs,dJ c)(hok:dI lw)(V:jB lw w) :
  I_ P lw (fB P true fr cs none lw) (fun I d=>fB P true fr cs none (dH w I d)):=by
 cases ho:fr.oper? with
 |none=>exact l5 (fun y=>fB P true fr cs none y) fun y=>⟨_,_,_,by unfold fB;rw[ho]⟩
 |some o=>
  have hoo:Bd o=true:=by
   unfold Frame.oper? at ho;split at ho
   .rename_i aP i rest k e;have:=hfr.todo;rw[e] at this;have h1:=(Qg this).1;simp only[iX,Array.all_eq_true] at h1;obtain⟨hi,rfl⟩:=ah.1 ho;exact h1 i hi
   cases ho
  have gen:∀y,(∀c l,fr.roundOf=some l->o.op≠.defer c)->fB P true fr cs none y=eC P true fr cs none (execOp fr.eval o) y:=fun y hn=>by
   unfold fB;rw[ho];cases hr:fr.roundOf with
   |none=>rfl
   |some l=>
    dsimp only;split
    .rename_i e1 e2;exact absurd e2 (hn _ _ hr)
    rfl
  by_cases hd:∃c l,fr.roundOf=some l/\o.op=.defer c
  .obtain⟨c,l,hr,hop⟩:=hd
   have e:∀y,fB P true fr cs none y=eC P true fr cs none (do Instr.deferInRound l (<-B6 fr.eval c o.type);pure .skip) y:=fun y=>by
    unfold fB;rw[ho];simp only[hr,hop]
   simp only[e];refine xo T hfr hcs ?_ hok V
   have hc:JJ c=true:=by
    unfold Bd at hoo;rw[hop] at hoo;exact hoo
   exact eW (l8 _ _ _ hc) fun d hd=>aU (Az l d hd) fun _=>trivial
  have hn:∀c l,fr.roundOf=some l->o.op≠.defer c:=fun c l h1 h2=>hd ⟨c,l,h1,h2⟩;simp only[fun y=>gen y hn];exact xo T hfr hcs (Ng T.toWm _ _ hoo) hok V
theorem Ri[vh]{s:GStep}{f}(h:I_ P lw s f){es:Array gO}(he:∀e∈es,BX lw.heap.size e):I_ P lw (Ce es s) (fun I d=>Ce es (f I d)):=by
 cases s with
 |ended=>trivial
 |spawn=>trivial
 |go g' eL es'=>
  rcases h with h|⟨hg,hgd,w',k,hb,hf⟩
  .exact .inl h
  refine .inr ⟨hg,hgd,w',k,⟨hb.tape,hb.drawn,hb.grows,hb.ok,fun e hx=>?_,hb.ui⟩,fun I d ha=>by dsimp only;rw[hf I d ha];rfl⟩;rcases H6.1 hx with hx|hx
  .exact(he e hx).mono hb.grows
  exact hb.evs e hx
 |comm g' cs b sh eL es'=>
  obtain⟨hg,hd,w',k,hb,hf⟩:=h;refine⟨hg,hd,w',k,⟨hb.tape,hb.drawn,hb.grows,hb.ok,fun e hx=>?_,hb.ui⟩,fun I d ha=>by dsimp only;rw[hf I d ha];rfl⟩;rcases H6.1 hx with hx|hx
  .exact(he e hx).mono hb.grows
  exact hb.evs e hx
 |_=>exact h.elim
theorem xp{a b:Nat}{I I':Nat->dQ->Nat}{d d':Nat}(h:Agree (a+b) I d I' d'):Agree a I d I' d'/\Agree b I (d+a) I' (d'+a):=
 ⟨h.le oN,fun i hi=>by have:=h (a+i) oN;rwa [<-ru,<-ru] at this⟩
theorem Rh[vh]{eL:ak}{s:GStep}{f f'}{n:Nat}(h:I_ P eL s f')(ht:eL.tape=lw.tape)(hd:eL.drawn=lw.drawn+n)(hs:lw.heap.size<=eL.heap.size)
  (hf:∀I d,Agree n lw.tape lw.drawn I d->f I d=f' I (d+n)):I_ P lw s f:=by
 cases s with
 |ended=>trivial
 |spawn=>trivial
 |go g' lw2 es'=>
  rcases h with h|⟨hg,hgd,w',k,hb,hf'⟩
  .exact .inl h
  refine .inr ⟨hg,hgd,w',n+k,⟨hb.tape.trans ht,by rw[hb.drawn,hd];omega,aF hs hb.grows,hb.ok,hb.evs,hb.ui⟩,fun I d ha=>?_⟩;obtain⟨h1,h2⟩:=xp ha;rw[hf I d h1,hf' I (d+n) (by rw[ht,hd];exact h2),ru]
 |comm g' cs b sh lw2 es'=>
  obtain⟨hg,NL,w',k,hb,hf'⟩:=h;refine⟨hg,NL,w',n+k,⟨hb.tape.trans ht,by rw[hb.drawn,hd];omega,aF hs hb.grows,hb.ok,hb.evs,hb.ui⟩,fun I d ha=>?_⟩;obtain⟨h1,h2⟩:=xp ha;rw[hf I d h1,hf' I (d+n) (by rw[ht,hd];exact h2),ru]
 |_=>exact h.elim
theorem VG[vh](T:Quiet P){fr:b_}{cs:List b_}(hfr:dJ fr)(hcs:∀c∈cs,dJ c)(hok:dI lw)(V:jB lw w) :
  I_ P lw (cF P true true fr cs none lw) (fun I d=>cF P true true fr cs none (dH w I d)):=by
 have hfr0:=hfr;obtain⟨ft,fd⟩:=hfr;obtain⟨fn,tmps,todo,defers,mode,kind,roundOf⟩:=fr;simp only at ft fd
 have leave:∀(jump:Option Code),jump.all eb=true->∀F:ak->GStep,(∀y,F y=(match (generalizing:=false) roundOf with
   |none=>if jump matches none|some .ret then .go { frame:={ fn:=fn,tmps:=tmps,todo:=todo,defers:=defers,mode:=.returning,kind:=kind,roundOf:=roundOf },callers:=cs,status:=.running,dying:=none } y
     else .ended (.stuck "exit, goto: no such block or label" (Frame.pos P ⟨fn,tmps,todo,defers,mode,kind,roundOf⟩)) y
   |some l=>
    let (r,es):=(Instr.endRound l jump).runT P y #[]
    Ce (seen P fn es) <| match r with
    |.ok v w=>uL P true ⟨fn,tmps,todo,defers,mode,kind,roundOf⟩ cs none v w
    |.halt _ w=>.ended (.stuck "range over a function: no such loop" (Frame.pos P ⟨fn,tmps,todo,defers,mode,kind,roundOf⟩)) w))->
   I_ P lw (F lw) (fun I d=>F (dH w I d)):=by
  intro jump hj F hF;cases roundOf with
  |none=>
   by_cases hm:(match (generalizing:=false) jump with|none|some .ret=>true|_=>false)=true
   .exact qm hok V (fJ (fr:={ fn:=fn,tmps:=tmps,todo:=todo,defers:=defers,mode:=.returning,kind:=kind,roundOf:=none }) ⟨ft,fd⟩ hcs) rfl F fun y=>(hF y).trans (if_pos hm)
   exact l5 F fun y=>⟨_,_,_,(hF y).trans (if_neg hm)⟩
  |some l=>
   refine Rw T hfr0 hcs hok V (l:=l) jump hj F ⟨?K,fun y=>?_,?_,?_⟩
   rotate_left
   .rw[hF y];dsimp only;generalize (Instr.endRound l jump).runT P y #[]=x;exact rfl
   .intro v es;exact⟨_,fZ,fun x=>rfl⟩
   intro h x es;exact⟨_,_,rfl⟩
 have to:∀(t:List Item),t.all iX=true->∀F:ak->GStep,(∀y,F y=.go { frame:={ fn:=fn,tmps:=tmps,todo:=t,defers:=defers,mode:=mode,kind:=kind,roundOf:=roundOf },callers:=cs,status:=.running,dying:=none } y #[])->
   I_ P lw (F lw) (fun I d=>F (dH w I d)):=fun t ht F hF=>qm hok V (fJ ⟨ht,fd⟩ hcs) rfl F hF
 have ended:∀F:ak->GStep,(∀y,∃o y' es,F y=.ended o y' es)->I_ P lw (F lw) (fun I d=>F (dH w I d)):=fun F hF=>l5 F hF;cases todo with
 |nil=>exact leave none rfl (fun y=>cF P true true _ cs none y) fun y=>rfl
 |cons x k=>
  obtain⟨hx,hk⟩:=Qg ft;have cons:∀(y:Item) (l:List Item),iX y=true->l.all iX=true->(y::l).all iX=true:=fun y l h1 h2=>by rw[dX,h1,h2];rfl
  cases x with
  |inBlock id=>exact to k hk (fun y=>cF P true true _ cs none y) fun y=>rfl
  |inScope body=>exact to k hk (fun y=>cF P true true _ cs none y) fun y=>rfl
  |inLoop body=>exact to _ (cons (.code body) _ hx (cons (.inLoop body) _ hx hk)) (fun y=>cF P true true _ cs none y) fun y=>rfl
  |inRegion aP l=>
   cases l with
   |nil=>exact to k hk (fun y=>cF P true true _ cs none y) fun y=>rfl
   |cons i rest=>
    by_cases hw:(((aP[i]?).map (Region.wanted · (yielded aP tmps))).getD false)=true
    .have e:∀y,cF P true true ⟨fn,tmps,.inRegion aP (i::rest)::k,defers,mode,kind,roundOf⟩ cs none y=fB P true ⟨fn,tmps,.inRegion aP (i::rest)::k,defers,mode,kind,roundOf⟩ cs none y:=fun y=>if_pos hw;simp only[e];exact Un T hfr0 hcs hok V
    exact qm hok V (fJ (hfr0.finish undef) hcs) rfl (fun y=>cF P true true _ cs none y) fun y=>if_neg hw
  |inRangeFunc l=>exact ended (fun y=>cF P true true _ cs none y) fun y=>⟨_,_,_,rfl⟩
  |endRangeFunc l=>
   refine zw (P:=P) (Kt l) hok V (fun y=>cF P true true _ cs none y) ⟨?K1,fun y=>?_,?_,?_⟩
   rotate_left
   .unfold cF;dsimp only;generalize (Instr.endLoop l).runT P y #[]=x;exact rfl
   .intro why x es;exact⟨_,_,rfl⟩
   .intro r hr;cases r with
    |ok jump=>
     have ht:((jump.map Item.code).toList++k).all iX=true:=by
      rw[List.all_append,hk,Bool.and_true];cases jump with
      |none=>rfl
      |some c=>
       have:eb c=true:=hr;simp[iX,this]
     exact lL.go (fJ (fr:={ fn:=fn,tmps:=tmps,todo:=(jump.map Item.code).toList++k,defers:=defers,mode:=mode,kind:=kind,roundOf:=roundOf }) ⟨ht,fd⟩ hcs) rfl _ (fun _=>fZ) fun y new=>rfl
    |error h=>
     cases h with
     |panic v=>exact lL.go (fJ (hfr0.raise _) hcs) rfl _ (fun _=>fZ) fun y new=>rfl
     |_=>exact lL.ended fun x new=>⟨_,_,_,rfl⟩
  |beginRound=>
   refine xo T hfr0 hcs ?_ hok V;cases roundOf with
   |none=>exact aU (bL (Q:=Any)) fun _=>trivial
   |some l=>exact aU (Dy l) fun _=>trivial
  |call d a b c=>exact absurd hx (by simp[iX])
  |extern r a=>exact absurd hx (by simp[iX])
  |code c=>
   have hc:eb c=true:=hx;cases c with
   |ret=>exact leave (some .ret) rfl (fun y=>cF P true true _ cs none y) fun y=>rfl
   |skip=>exact to k hk (fun y=>cF P true true _ cs none y) fun y=>rfl
   |label l=>exact to k hk (fun y=>cF P true true _ cs none y) fun y=>rfl
   |seq a b=>
    simp only[eb,aJ] at hc;exact to _ (cons (.code a) _ hc.1 (cons (.code b) _ hc.2 hk)) (fun y=>cF P true true _ cs none y) fun y=>rfl
   |cond c t e=>
    simp only[eb,aJ] at hc
    by_cases hb:∃b,Frame.eval ⟨fn,tmps,.code (.cond c t e)::k,defers,mode,kind,roundOf⟩ c=.bool b
    .obtain⟨b,hb⟩:=hb
     have e:∀y,cF P true true ⟨fn,tmps,.code (.cond c t e)::k,defers,mode,kind,roundOf⟩ cs none y=.go { frame:={ fn:=fn,tmps:=tmps,todo:=.code (if b then t else e)::k,defers:=defers,mode:=mode,kind:=kind,roundOf:=roundOf },callers:=cs,status:=.running,dying:=none } y #[]:=fun y=>by
      unfold cF;simp only[hb]
     exact to _ (cons _ _ (by cases b;exact hc.2;exact hc.1) hk) (fun y=>cF P true true _ cs none y) e
    refine ended (fun y=>cF P true true _ cs none y) fun y=>⟨.stuck "cond: bool expected" (Frame.pos P ⟨fn,tmps,.code (.cond c t e)::k,defers,mode,kind,roundOf⟩),y,#[],?_⟩
    unfold cF;dsimp only;split
    .rename_i b hb';exact absurd ⟨b,hb'⟩ hb
    exact rfl
   |block id body=>exact to _ (cons (.code body) _ hc (cons (.inBlock id) _ rfl hk)) (fun y=>cF P true true _ cs none y) fun y=>rfl
   |loop body=>exact to _ (cons (.code body) _ hc (cons (.inLoop body) _ hc hk)) (fun y=>cF P true true _ cs none y) fun y=>rfl
   |scope body=>exact to _ (cons (.code body) _ hc (cons (.inScope body) _ hc hk)) (fun y=>cF P true true _ cs none y) fun y=>rfl
   |exit id=>
    cases he:exitTo id k with
    |none=>exact leave (some (.exit id)) rfl (fun y=>cF P true true _ cs none y) fun y=>by unfold cF;simp only[he];rfl
    |some k'=>exact to k' (BA hk he) (fun y=>cF P true true _ cs none y) fun y=>by unfold cF;simp only[he];rfl
   |goto l=>
    cases he:gotoIn l k with
    |none=>exact leave (some (.goto l)) rfl (fun y=>cF P true true _ cs none y) fun y=>by unfold cF;simp only[he];rfl
    |some k'=>exact to k' (Bu hk he) (fun y=>cF P true true _ cs none y) fun y=>by unfold cF;simp only[he];rfl
   |refuse why=>exact ended (fun y=>cF P true true _ cs none y) fun y=>⟨_,_,_,rfl⟩
   |region id aP draw=>
    cases draw with
    |false=>exact to _ (cons (.inRegion aP _) _ hc hk) (fun y=>cF P true true _ cs none y) fun y=>rfl
    |true=>
     have e:∀y:ak,cF P true true ⟨fn,tmps,.code (.region id aP true)::k,defers,mode,kind,roundOf⟩ cs none y =
       .go { frame:={ fn:=fn,tmps:=tmps,todo:=.inRegion aP (Region.schedule (P.follows .mixedOrders) aP (y.tape y.drawn (.order fn id)))::k,defers:=defers,mode:=mode,kind:=kind,roundOf:=roundOf },callers:=cs,status:=.running,dying:=none } { y with drawn:=y.drawn+1 } #[]:=fun y=>rfl
     rw[e lw];refine .inr ⟨fJ (fr:={ fn:=fn,tmps:=tmps,todo:=.inRegion aP _::k,defers:=defers,mode:=mode,kind:=kind,roundOf:=roundOf }) ⟨cons (.inRegion aP _) _ hc hk,fd⟩ hcs,rfl,w,1,⟨rfl,rfl,aO _,hok,sN,⟨V.size,V.os,V.out,V.at_,V.old,V.kept⟩⟩,fun I d ha=>?_⟩;dsimp only;rw[e];have h0:lw.tape lw.drawn=I d:=ha 0 oN;rw[h0];rfl
   |rangeFunc f params assign body=>
    simp only[eb,aJ] at hc
    have Ad:∀x:b_,Calm P eY (do let d <-B6 x.eval { callee:=.value f,args:=#[.const (.func (.yield (0:Nat)) #[] #[])],argTypes:=#[] } 0;invoke d.target d.args):=fun x=>
     eW (l8 _ _ _ rfl) fun d hd=>rY T.toWm _ _ hd
    rcases xk (FZ (P:=P) fn tmps params assign body roundOf hc.1 hc.2) hok V with⟨why,eL,h⟩|⟨eL,w',n,r,new,h⟩
    .obtain⟨es,he⟩:=h #[]
     have:∃o es',cF P true true ⟨fn,tmps,.code (.rangeFunc f params assign body)::k,defers,mode,kind,roundOf⟩ cs none lw=.ended o eL es':=by
      unfold cF;simp only[he];exact⟨_,_,rfl⟩
     obtain⟨o,es',e⟩:=this;rw[e];trivial
    .cases r with
     |error hh=>
      have:∃o es',cF P true true ⟨fn,tmps,.code (.rangeFunc f params assign body)::k,defers,mode,kind,roundOf⟩ cs none lw=.ended o eL es':=by
       unfold cF;simp only[h.lone #[]];exact⟨_,_,rfl⟩
      obtain⟨o,es',e⟩:=this;rw[e];trivial
     |ok z=>
      obtain⟨l,mark⟩:=z;have hm:mark.all pZ=true:=h.res;have ajb:dJ ⟨fn,tmps,.inRangeFunc l::k,mark++defers,mode,kind,roundOf⟩:=⟨cons (.inRangeFunc l) _ rfl hk,by show(mark++defers).all pZ=true;rw[List.all_append,hm,fd];rfl⟩
      have key:∀(y y':ak) (new:Array gO),(Instr.enterLoop fn tmps params assign body roundOf).runT P y #[]=(.ok (l,mark) y',new)->cF P true true ⟨fn,tmps,.code (.rangeFunc f params assign body)::k,defers,mode,kind,roundOf⟩ cs none y =
        Ce (seen P fn new) (eC P true ⟨fn,tmps,.inRangeFunc l::k,mark++defers,mode,kind,roundOf⟩ cs none (do let d <-B6 (Frame.eval ⟨fn,tmps,.inRangeFunc l::k,mark++defers,mode,kind,roundOf⟩) { callee:=.value f,args:=#[.const (.func (.yield l) #[] #[])],argTypes:=#[] } 0;invoke d.target d.args) y'):=fun y y' new e=>by
       rw[cF];dsimp only;rw[e]
      have hl:=h.lone #[];rw[fD] at hl;rw[key lw eL new hl];have inner:=xo (lw:=eL) (w:=w') T ajb hcs (s:=(do let d <-B6 (Frame.eval ⟨fn,tmps,.inRangeFunc l::k,mark++defers,mode,kind,roundOf⟩) { callee:=.value f,args:=#[.const (.func (.yield l) #[] #[])],argTypes:=#[] } 0;invoke d.target d.args)) (eW (l8 _ _ _ rfl) fun d hd=>rY T.toWm _ _ hd) h.ok h.ui;refine Rh (Ri inner (es:=seen P fn new) fun e he=>h.evs e (mem_seen he)) h.tape h.drawn h.grows fun I d ha=>?_;have hm2:=h.many I d ha #[];rw[fD] at hm2;exact key _ _ _ hm2
theorem Ih[vh](T:Quiet P){g:aH}(hg:A0 g)(hd:g.dying=none)(hok:dI lw)(V:jB lw w) :
  I_ P lw (fE P true g lw) (fun I d=>fE P true g (dH w I d)):=by
 obtain⟨fr,cs,st,dy,off⟩:=g;simp only at hd;subst hd;obtain⟨hf,hc,_⟩:=hg;cases hm:fr.mode with
 |run=>
  have e:∀y,fE P true ⟨fr,cs,st,none,off⟩ y=cF P true true fr cs none y:=fun y=>by unfold fE;simp only[hm]
  simp only[e];exact VG T hf hc hok V
 |_=>
  have e:∀y,fE P true ⟨fr,cs,st,none,off⟩ y=mg P true fr cs none y:=fun y=>by unfold fE;simp only[hm]
  simp only[e];exact NW T hf hc hok V
end
open Go.Conc
def lX(gs:Array aH):Prop:=∀g∈gs,g.status≠.blocked
def mN{gs:Array aH}(h:lX gs)(r:Nat)(b:Bool):partners gs r b=[]:=by
 unfold partners;rw[List.flatMap_eq_nil_iff];rintro⟨g,i⟩ hx
 have hg:g∈gs:=by
  have:(g,i)∈gs.toList.zipIdx:=by simpa using hx
  exact Array.mem_toList_iff.1 (List.fst_mem_of_mem_zipIdx this)
 have:=h g hg;dsimp only;split
 .rename_i e _;exact absurd e this
 rfl
def H_{gs:Array aH}(h:lX gs)(w:ak)(c:nj):ways w gs c=ways w #[] c:=by
 unfold ways;simp only[mN h,mN (gs:=#[]) (by intro g hg;simp at hg)]
def QZ[vh]{lw w:ak}(V:jB lw w)(c:nj):ways w #[] c=ways lw #[] c:=by
 unfold ways;split
 .rename_i r _;rcases V.at_ r with h|⟨h1,o,h2,h3⟩
  .rw[h]
  rw[h1,h2]
  have:∀cap buf cl s r tm,o≠.chan cap buf cl s r tm:=by
   intro cap buf cl s r tm e;subst e;cases h3
  cases o<;>first|rfl|exact absurd rfl (this _ _ _ _ _ _)
 rfl
def La(w:ak)(c:nj):ways w #[] c=[]\/ways w #[] c=[.sendClosed]\/ways w #[] c=[.buffer]\/ways w #[] c=[.closed]:=by
 unfold ways;have e:∀r b,partners #[] r b=[]:=fun r b=>mN (by intro g hg;simp at hg) r b;simp only[e];split
 .split
  .split
   .simp
   split<;>simp
  .split
   .simp
   split<;>simp
  simp
 simp
def Q0{w:ak}{c:nj}(h:ways w #[] c≠[]):∃r cap buf cl s rc tm,c.chan=.chan (some r)/\w.heap[r]?=some (Obj.chan cap buf cl s rc tm):=by
 unfold ways at h;split at h
 .rename_i r hr;split at h
  .rename_i h1 _;exact⟨r,_,_,_,_,_,_,hr,h1⟩
  .rename_i h1 _;exact⟨r,_,_,_,_,_,_,hr,h1⟩
  exact absurd rfl h
 exact absurd rfl h
def Oa{P:aN}(ready:List (Nat × nj × List Way))(h1:∀y∈ready,y.2.2.length=1)(hne:ready≠[])(w:ak) :
  (do
   let a <-AV (.select ready.length);let (k,c,ws):=ready.getD a (0,default,[])
   let b <-AV (.extern "which waiting goroutine is the partner" ws.length)
   pure (k,c,ws.getD b .closed):iT (Nat × nj × Way)).run P w =
  (if ready.length<=1 then .ok ((ready.getD 0 (0,default,[])).1,(ready.getD 0 (0,default,[])).2.1,(ready.getD 0 (0,default,[])).2.2.getD 0 .closed) w
   else .ok ((ready.getD (w.tape w.drawn (.select ready.length) % ready.length) (0,default,[])).1,(ready.getD (w.tape w.drawn (.select ready.length) % ready.length) (0,default,[])).2.1,(ready.getD (w.tape w.drawn (.select ready.length) % ready.length) (0,default,[])).2.2.getD 0 .closed) { w with drawn:=w.drawn+1 }):=by
 have hl:0<ready.length:=cN.2 hne
 have key:∀a,a<ready.length->(ready.getD a (0,default,[])).2.2.length=1:=fun a ha=>by
  rw[List.getD_eq_getElem?_getD,eQ ha];exact h1 _ (bQ ha)
 by_cases hn:ready.length<=1
 .rw[if_pos hn];have:=key 0 hl;simp only[AV,bind,Sem.bind,Sem.run,Question.forced,hn,decide_true,if_true,this];simp[pure,Sem.run]
 rw[if_neg hn];have:=key (w.tape w.drawn (.select ready.length) % ready.length) (Nat.mod_lt _ hl);simp only[AV,bind,Sem.bind,Sem.run,Question.forced,hn,decide_false,Question.cut];simp only[bG,if_false,this];simp[pure,Sem.run]
def WZ(B:Nat)(op:MemOp):Prop:=op.g=0/\∃r n m,r<B/\(op.act=.send r n\/op.act=.sendDone r n\/op.act=.recv r n m\/op.act=.recvDone r n\/op.act=.recvClosed r)
def any_congr{f f':nj->Bool}(h:∀c,f c=f' c)(cs:Array nj):cs.any f=cs.any f':=by rw[funext h]
def uN{rest:Rest}(h:rest.timers = #[])(cs:Array nj)(w:ak):waitingAt rest cs w=some w:=by
 unfold waitingAt
 have:timerAhead rest w.os.mono cs=false:=by
  unfold timerAhead;rw[h];rw[Array.any_eq_false];intro i hi;split<;>simp
 rw[this];rfl
section
variable{P:aN}{lw w:ak}
structure Zs[vh](P:aN)(g:aH)(cs:Array nj)(b:Bool)(sh:CommShape)(lw w:ak)(aP:Array MemOp)(g':aH)(eL w':ak)(k:Nat):Prop where
 gok:A0 g'
 dy:g'.dying=none
 run:g'.status=.running
 base:Base lw eL w' k #[]
 lists:∀op∈aP,WZ lw.heap.size op
 many:∀(gs:Array aH) (rest:Rest),lX gs->rest.timers = #[]->∀I d,Agree k lw.tape lw.drawn I d->m_ P rest gs 0 g cs b sh (dH w I d)=(.next { world:=dH w' I (d+k),gs:=gs.setIfInBounds 0 g',rest:=rest },aP)
theorem M8[vh](T:Quiet P){d0:aH}(hd0:d0.status≠.blocked){rest0:Rest}(J4:rest0.timers = #[])(hok:dI lw)(V:jB lw w)
  {g:aH} (hg:A0 g) (hgd:g.dying=none) (hgr:g.status=.running) {cs:Array nj} {b:Bool} {sh:CommShape} {m':Machine} {aP:Array MemOp} (hl:m_ P rest0 #[d0] 0 g cs b sh lw=(.next m',aP)) :
  ∃g' eL,m'={ world:=eL,gs:=#[g'],rest:=rest0 }/\(g'.status=.blocked\/∃w' k,Zs P g cs b sh lw w aP g' eL w' k):=by
 have Yx:lX #[d0]:=by intro x hx;simp at hx;rw[hx];exact hd0
 have e0:∀c,ways lw #[d0] c=ways lw #[] c:=fun c=>H_ Yx lw c;have e1:∀(gs:Array aH) (qU:lX gs) I d c,ways (dH w I d) gs c=ways lw #[] c:=fun gs qU I d c=>(H_ qU _ c).trans (QZ (tv V I d) c);unfold m_ at hl
 extract_lets put illMade me other ready pick at hl
 have hrw:∀y∈ready,y.2.2.length=1:=by
  intro y hy;obtain⟨h1,h2⟩:=kD.1 hy;obtain⟨⟨c,k⟩,hc,rfl⟩:=dn.1 h1;dsimp only at h2 ⊢;rcases La lw c with h|h|h|h<;>rw[e0,h] at h2 ⊢<;>first|rfl|simp at h2
 split at hl
 .cases hl
 rename_i abt;have Mv:∀(I:Nat->dQ->Nat) (d:Nat) (f:nj->Bool),(∀c,f c=illMade c)->¬cs.any f=true:=fun I d f hf hc=>abt ((any_congr (fun c=>(hf c).symm) cs).trans hc)
 by_cases ZM:ready.isEmpty=true
 .
  have far:∀(gs:Array aH) (rest:Rest) (qU:lX gs) (ht:rest.timers = #[]) I d,m_ P rest gs 0 g cs b sh (dH w I d) =
    if b=true then(.next { world:=dH w I d,gs:=gs.setIfInBounds 0 { g with status:=.blocked,offers:=some (cs,sh) },rest:=rest },#[])
    else(.next { world:=dH w I d,gs:=gs.setIfInBounds 0 (g.finishComm P cs sh (-1) undef false),rest:=rest },#[]):=by
   intro gs rest qU ht I d;unfold m_
   extract_lets put' z_ JH ready' pick'
   have hr:ready'=ready:=by simp only[ready,ready',e0,e1 gs qU]
   refine(if_neg (Mv I d _ fun c=>?_)).trans ?_
   .simp only[illMade,z_];split
    .rfl
    .rename_i r _;rcases(tv V I d).at_ r with h|⟨h1,o,h2,h3⟩
     .rw[h]
     rw[h1,h2];cases o<;>first|rfl|cases h3
    rfl
   rw[hr,if_pos ZM,uN ht]
  rw[if_pos ZM,uN J4] at hl;cases b with
  |true=>
   simp only[if_true] at hl;cases hl;exact⟨_,_,rfl,.inl rfl⟩
  |false=>
   simp only[bG,if_false,put] at hl;cases hl;exact⟨_,_,rfl,.inr ⟨w,0,⟨⟨hg.frame.finish _,hg.callers,.inl rfl⟩,hgd,rfl,I6 hok V,sN,fun gs rest qU ht I d _=>by rw[far gs rest qU ht];rfl⟩⟩⟩
 have hne:ready≠[]:=by simpa using ZM
 have Ys:∃n y,y∈ready/\pick.run P lw=.ok (y.1,y.2.1,y.2.2.getD 0 .closed) { lw with drawn:=lw.drawn+n }/\∀x:ak,(∀i,i<n->x.tape (x.drawn+i)=lw.tape (lw.drawn+i))->pick.run P x=.ok (y.1,y.2.1,y.2.2.getD 0 .closed) { x with drawn:=x.drawn+n }:=by
  have hr:=fun x=>Oa (P:=P) ready hrw hne x;have hl0:0<ready.length:=cN.2 hne
  have hin:∀a,a<ready.length->ready.getD a (0,default,[])∈ready:=fun a ha=>by
   rw[List.getD_eq_getElem?_getD,eQ ha];exact bQ ha
  by_cases hn:ready.length<=1
  .refine⟨0,ready.getD 0 (0,default,[]),hin 0 hl0,?_,fun x _=>?_⟩
   .exact(hr lw).trans (if_pos hn)
   exact(hr x).trans (if_pos hn)
  refine⟨1,ready.getD (lw.tape lw.drawn (.select ready.length) % ready.length) (0,default,[]),hin _ (Nat.mod_lt _ hl0),?_,fun x hx=>?_⟩
  .exact(hr lw).trans (if_neg hn)
  have h0:x.tape x.drawn=lw.tape lw.drawn:=hx 0 oN;refine(hr x).trans ((if_neg hn).trans ?_);rw[h0]
 obtain⟨n,y,hy,hp,hpx⟩:=Ys;rw[if_neg ZM,hp] at hl
 have KO:y.2.2=ways lw #[] y.2.1:=by
  obtain⟨h1,_⟩:=kD.1 hy;obtain⟨⟨c,k⟩,hc,rfl⟩:=dn.1 h1;exact e0 c
 obtain⟨k,c,ws⟩:=y;dsimp only at KO hl hp hpx
 obtain⟨r,cap,buf,cl,aM,adR,tm,hcc,hh⟩:=Q0 (w:=lw) (c:=c) (by
  intro e;have:=hrw _ hy;dsimp only at this;rw[KO,e] at this
  cases this)
 have hh2:w.heap[r]?=some (Obj.chan cap buf cl aM adR tm):=by
  rcases V.at_ r with h'|⟨h',_⟩
  .rw[<-h'];exact hh
  rw[hh] at h';cases h'
 have hb:∀nJ w₁:ak,nJ.tape=lw.tape->nJ.drawn=lw.drawn+n->nJ.heap.size=lw.heap.size->dI nJ->jB nJ w₁->Base lw nJ w₁ n #[]:=fun nJ w₁ h1 h2 h3 h4 h5=>⟨h1,h2,oN,h4,sN,h5⟩
 have hgf:∀k v o,A0 (g.finishComm P cs sh k v o):=fun k v o=>⟨hg.frame.finish _,hg.callers,.inl rfl⟩
 simp only[hcc,hh] at hl;rcases La lw c with hw|hw|hw|hw
 .exfalso;have:=hrw _ hy;dsimp only at this;rw[KO,hw] at this;cases this
 .
  have hw1:ws.getD 0 .closed=.sendClosed:=by rw[KO,hw];rfl
  rw[hw1] at hl;dsimp only at hl;have V1:jB { lw with drawn:=lw.drawn+n } w:=⟨V.size,V.os,V.out,V.at_,V.old,V.kept⟩
  rcases xk (iM (P:=P) (.plain "send on closed channel")) (lw:={ lw with drawn:=lw.drawn+n }) (w:=w) hok V1 with⟨why,eL,h⟩|⟨eL,w',n2,r2,new,h⟩
  .obtain⟨es',he⟩:=h #[]
   have:(eJ (.plain "send on closed channel"):iT Unit).run P { lw with drawn:=lw.drawn+n }=.halt (.stuck why) eL:=by
    have e:=congrArg Prod.fst he;rwa [Sem.runT_eq] at e
   rw[this] at hl;cases hl
  .have h1:(eJ (.plain "send on closed channel"):iT Unit).run P { lw with drawn:=lw.drawn+n }=Bf r2 eL:=by
    have e:=congrArg Prod.fst (h.lone #[]);rwa [Sem.runT_eq] at e
   rw[h1] at hl;cases r2 with
   |ok u=>cases hl
   |error hh0=>
    cases hh0 with
    |panic v=>
     simp only[Bf,put] at hl;cases hl;refine⟨_,_,rfl,.inr ⟨w',n+n2,⟨hg.frame.raise _,hg.callers,hg.status⟩,hgd,?_,⟨h.tape,by rw[h.drawn];simp only[];omega,h.grows,h.ok,sN,h.ui⟩,sN,fun gs rest qU ht I d ha=>?_⟩⟩
     .exact hgr
     obtain⟨ha,ha2⟩:=xp ha
     have h2:(eJ (.plain "send on closed channel"):iT Unit).run P (dH w I (d+n))=.halt (.panic v) (dH w' I (d+n+n2)):=by
      have e:=congrArg Prod.fst (h.many I (d+n) ha2 #[]);rwa [Sem.runT_eq] at e
     unfold m_
     extract_lets put' z_ JH ready' pick'
     have hr:ready'=ready:=by simp only[ready,ready',e0,e1 gs qU]
     refine(if_neg (Mv I d _ fun c=>?_)).trans ?_
     .simp only[illMade,z_];split
      .rfl
      .rename_i r _;rcases(tv V I d).at_ r with h|⟨h1,o,h2,h3⟩
       .rw[h]
       rw[h1,h2];cases o<;>first|rfl|cases h3
      rfl
     rw[hr,if_neg ZM]
     have hp':pick'.run P (dH w I d)=.ok (k,c,ws.getD 0 .closed) (dH w I (d+n)):=by
      have:pick'=pick:=by simp only[pick,pick',hr]
      rw[this];exact hpx (dH w I d) fun i hi=>(ha i hi).symm
     rw[hp',hw1];simp only[hcc,oW,hh2];simp only[h2,ru];rfl
    |_=>cases hl
 .have hw1:ws.getD 0 .closed=.buffer:=by rw[KO,hw];rfl
  rw[hw1] at hl;cases hsend:c.send with
  |some v=>
   simp only[hsend,put] at hl;cases hl;refine⟨_,_,rfl,.inr ⟨{ w with heap:=w.heap.setIfInBounds r _ },n,hgf ..,hgd,rfl,hb _ _ rfl rfl sN (yK (w:={ lw with drawn:=lw.drawn+n }) hok rfl) (zq (lw:={ lw with drawn:=lw.drawn+n }) ⟨V.size,V.os,V.out,V.at_,V.old,V.kept⟩ _ _ rfl),?_,fun gs rest qU ht I d ha=>?_⟩⟩
   .intro op hop;simp only[fe,cj,gX,or_false] at hop;rcases hop with rfl|rfl<;>exact⟨rfl,r,aM,0,eR hh,by simp[me]⟩
   unfold m_
   extract_lets put' z_ JH ready' pick'
   have hr:ready'=ready:=by simp only[ready,ready',e0,e1 gs qU]
   refine(if_neg (Mv I d _ fun c=>?_)).trans ?_
   .simp only[illMade,z_];split
    .rfl
    .rename_i r _;rcases(tv V I d).at_ r with h|⟨h1,o,h2,h3⟩
     .rw[h]
     rw[h1,h2];cases o<;>first|rfl|cases h3
    rfl
   rw[hr,if_neg ZM]
   have hp':pick'.run P (dH w I d)=.ok (k,c,ws.getD 0 .closed) (dH w I (d+n)):=by
    have:pick'=pick:=by simp only[pick,pick',hr]
    rw[this];exact hpx (dH w I d) fun i hi=>(ha i hi).symm
   rw[hp',hw1];simp only[hcc,oW,hh2];simp only[hsend];rfl
  |none=>
   simp only[mN Yx] at hl;simp only[hsend,put] at hl;cases hl;refine⟨_,_,rfl,.inr ⟨{ w with heap:=w.heap.setIfInBounds r _ },n,hgf ..,hgd,rfl,hb _ _ rfl rfl sN (yK (w:={ lw with drawn:=lw.drawn+n }) hok rfl) (zq (lw:={ lw with drawn:=lw.drawn+n }) ⟨V.size,V.os,V.out,V.at_,V.old,V.kept⟩ _ _ rfl),?_,fun gs rest qU ht I d ha=>?_⟩⟩
   .intro op hop;simp only[fe,cj,gX,or_false] at hop;rcases hop with rfl|rfl<;>exact⟨rfl,r,adR,cap,eR hh,by simp[me]⟩
   unfold m_
   extract_lets put' z_ JH ready' pick'
   have hr:ready'=ready:=by simp only[ready,ready',e0,e1 gs qU]
   refine(if_neg (Mv I d _ fun c=>?_)).trans ?_
   .simp only[illMade,z_];split
    .rfl
    .rename_i r _;rcases(tv V I d).at_ r with h|⟨h1,o,h2,h3⟩
     .rw[h]
     rw[h1,h2];cases o<;>first|rfl|cases h3
    rfl
   rw[hr,if_neg ZM]
   have hp':pick'.run P (dH w I d)=.ok (k,c,ws.getD 0 .closed) (dH w I (d+n)):=by
    have:pick'=pick:=by simp only[pick,pick',hr]
    rw[this];exact hpx (dH w I d) fun i hi=>(ha i hi).symm
   rw[hp',hw1];simp only[hcc,oW,hh2];simp only[hsend,mN qU];rfl
 have hw1:ws.getD 0 .closed=.closed:=by rw[KO,hw];rfl
 rw[hw1] at hl;dsimp only at hl;simp only[put] at hl;cases hl;refine⟨_,_,rfl,.inr ⟨w,n,hgf ..,hgd,rfl,hb _ _ rfl rfl rfl hok ⟨V.size,V.os,V.out,V.at_,V.old,V.kept⟩,?_,fun gs rest qU ht I d ha=>?_⟩⟩
 .intro op hop;simp only[fe,cj,gX,or_false] at hop;subst hop;exact⟨rfl,r,0,0,eR hh,by simp[me]⟩
 unfold m_
 extract_lets put' z_ JH ready' pick'
 have hr:ready'=ready:=by simp only[ready,ready',e0,e1 gs qU]
 refine(if_neg (Mv I d _ fun c=>?_)).trans ?_
 .simp only[illMade,z_];split
  .rfl
  .rename_i r _;rcases(tv V I d).at_ r with h|⟨h1,o,h2,h3⟩
   .rw[h]
   rw[h1,h2];cases o<;>first|rfl|cases h3
  rfl
 rw[hr,if_neg ZM]
 have hp':pick'.run P (dH w I d)=.ok (k,c,ws.getD 0 .closed) (dH w I (d+n)):=by
  have:pick'=pick:=by simp only[pick,pick',hr]
  rw[this];exact hpx (dH w I d) fun i hi=>(ha i hi).symm
 rw[hp',hw1];simp only[hcc,oW,hh2];rfl
end
def ye(B:Nat)(aP:Array MemOp):Prop:=∀op∈aP,op.g=0/\op.act.low B/\op.act≠.mark .disable/\op.act≠.mark .enable
def ye.app{B:Nat}{a b:Array MemOp}(ha:ye B a)(hb:ye B b):ye B (a++b):=fun op h=>(H6.1 h).elim (ha op) (hb op)
def uu{B:Nat}{es:Array gO}(h:∀e∈es,BX B e)(fn:d_)(pos:String):ye B (iJ 0 fn pos es):=fun op hop=>by
 obtain⟨e,he,rfl⟩:=Cg hop;obtain⟨loc,wr,sy⟩:=e;refine⟨rfl,?_⟩;rcases h _ he with⟨a,rfl,ha⟩|⟨r,rfl,hr⟩|rfl|rfl|⟨f,rfl⟩
 .exact⟨ha,by simp[gq],by simp[gq]⟩
 .cases wr<;>cases sy<;>exact⟨hr,by simp[gq],by simp[gq]⟩
 .exact⟨trivial,by simp[gq],by simp[gq]⟩
 .exact⟨trivial,by simp[gq],by simp[gq]⟩
 exact⟨trivial,by simp[gq],by simp[gq]⟩
def Ov{B B':Nat}(hB:B<=B'){aP:Array MemOp}(h:∀op∈aP,WZ B op):ye B' aP:=fun op hop=>by
 obtain⟨hg,r,n,m,hr,ho⟩:=h op hop;refine⟨hg,?_⟩;rcases ho with e|e|e|e|e<;>rw[e]<;>exact⟨bw hr hB,sN,sN⟩
def Am{B:Nat}{aP:Array MemOp}(h:ye B aP)(t:Trace)(g:Nat):Deaf (t++aP) g=Deaf t g:=by
 obtain⟨l⟩:=aP;rw[Deaf_append]
 have:∀(l:List MemOp),(∀op∈l,op.act≠.mark .disable/\op.act≠.mark .enable)->∀d,l.foldl (deafStep g) d=d:=by
  intro l
  induction l with
  |nil=>intro _ d;rfl
  |cons y l ih=>
   intro hl d;rw[List.foldl_cons]
   have:deafStep g d y=d:=by
    have hy:=hl y (dF ..);unfold deafStep;split
    .rename_i e;exact absurd e hy.1
    .rename_i e;exact absurd e hy.2
    rfl
   rw[this];exact ih (fun op hop=>hl op (bT _ hop)) d
 exact this l (fun op hop=>⟨(h op (by simpa using hop)).2.2.1,(h op (by simpa using hop)).2.2.2⟩) _
section
variable{P:aN}
theorem runT_crowd_comm{gs:Array aH}{w w':ak}{sl:Option (Nat × Nat)}{i:Nat}{g g':aH}{cs:Array nj}{b:Bool}{sh:CommShape}{es:Array gO}(hi:gs[i]?=some g)(h:fE P (i==0) g w=.comm g' cs b sh w' es) :
  runT P (rE gs w sl) i=((m_ P { timers:=#[],alone:=none,slice:=sl } (gs.setIfInBounds i { (default:aH) with status:=.finished }) i g' cs b sh w').1,
   iJ i g.frame.fn g.frame.place es++(m_ P { timers:=#[],alone:=none,slice:=sl } (gs.setIfInBounds i { (default:aH) with status:=.finished }) i g' cs b sh w').2):=by
 obtain⟨hlt,rfl⟩:=ah.1 hi;have hsw:=swapAt_of_lt hlt { (default:aH) with status:=.finished };have vp:gs.set i { (default:aH) with status:=.finished }=gs.setIfInBounds i { (default:aH) with status:=.finished }:=by simp[Array.setIfInBounds,hlt]
 show runT P { world:=w,gs:=gs,rest:={ timers:=#[],alone:=none,slice:=sl } } i=_;unfold runT;simp only[hsw,h,GStep.es,vp]
def Idle(gs:Array aH):Prop:=∀(i:Nat) (x:aH),0<i->gs[i]?=some x->x.status=.running\/x.status=.finished
theorem PG{w:ak}{o:aH}(h:o.status=.running\/o.status=.finished):o.again w=o:=by
 unfold Goroutine.again;rcases h with h|h<;>rw[h]
theorem NT{gs:Array aH}(h:Idle gs)(g g':aH)(w':ak):(gs.map (woken P g g' w')).setIfInBounds 0 g'=gs.setIfInBounds 0 g':=by
 apply Array.ext_getElem?;intro j
 by_cases hj:0=j
 .subst hj;simp only[bK,Array.size_map,if_true]
 .simp only[aG hj,km];cases hx:gs[j]? with
  |none=>rfl
  |some x=>
   simp only[dM];unfold woken;split
   .rw[PG (h j x oN hx)]
   rfl
def si(P:aN)(g:aH)(W:ak)(g':aH)(W':ak):Prop:=
 g.status=.running/\g.dying=none/\(∃aP,stepT P (xL g W)=(.next (xL g' W'),aP))/\g'.status=.running/\g'.dying=none
theorem oQ{a b:aH}{w w':ak}(h:xL a w=xL b w'):a=b/\w=w':=by
 unfold xL at h;injection h with h1 h2 h3
 exact⟨by simpa using h2,h1⟩
theorem Lp(gs:Array aH)(x y:aH):(gs.setIfInBounds 0 x).setIfInBounds 0 y=gs.setIfInBounds 0 y:=by
 apply Array.ext_getElem?;intro j
 by_cases hj:0=j
 .subst hj;simp[bK]
 simp[aG hj]
theorem CR[vh](T:Quiet P){lw w:ak}{g g':aH}{eL:ak}(hg:A0 g)(hok:dI lw)(V:jB lw w)(h:si P g lw g' eL) :
  A0 g'/\∃w' k aP,Base lw eL w' k #[]/\ye eL.heap.size aP/\
   ∀I d gs sl,Agree k lw.tape lw.drawn I d->gs[0]?=some g->Idle gs->runT P (rE gs (dH w I d) sl) 0=(.next (rE (gs.setIfInBounds 0 g') (dH w' I (d+k)) sl),aP):=by
 obtain⟨hr,hd,⟨aP,hs⟩,hr',NL⟩:=h;have Bi:=Ih T hg hd hok V;rw[stepT_solo hr,nP] at hs;have O7:(#[g]:Array aH)[0]?=some g:=rfl;cases qU:fE P true g lw with
 |go g1 kW es=>
  rw[qU] at Bi;have e:=DG (P:=P) (gs:=#[g]) (w:=lw) (sl:=none) (i:=0) O7 qU;rw[e] at hs;injection hs with hs1 hs2
  injection hs1 with hs3
  have:(#[g].map (woken P g g1 kW)).setIfInBounds 0 g1 = #[g1]:=sN;rw[this,<-nP] at hs3;obtain⟨rfl,rfl⟩:=oQ hs3;rcases Bi with hdy|⟨DZ,_,w',k,hb,hm⟩
  .obtain⟨_,dd,he,_⟩:=hdy;rw[NL] at he;cases he
  refine⟨DZ,w',k,_,⟨hb.tape,hb.drawn,hb.grows,hb.ok,sN,hb.ui⟩,uu hb.evs g.frame.fn g.frame.place,fun I d gs sl ha h0 hi=>?_⟩;rw[DG (P:=P) (sl:=sl) (i:=0) h0 (hm I d ha),NT hi]
 |comm g1 cs b sh kW es=>
  rw[qU] at Bi;obtain⟨DZ,⟨hgd,abC⟩,w1,k1,hb,hm⟩:=Bi;have e:=runT_crowd_comm (P:=P) (gs:=#[g]) (w:=lw) (sl:=none) (i:=0) O7 qU;rw[e] at hs;have aby:(#[g].setIfInBounds 0 { (default:aH) with status:=.finished }) = #[{ (default:aH) with status:=.finished }]:=sN;rw[aby] at hs;generalize hc:m_ P { timers:=#[],alone:=none,slice:=none } #[{ (default:aH) with status:=.finished }] 0 g1 cs b sh kW=cc at hs;obtain⟨st,more⟩:=cc;injection hs with hs1 hs2
  dsimp only at hs1;subst hs1
  have key:∀gs:Array aH,Idle gs->0<gs.size->lX (gs.setIfInBounds 0 { (default:aH) with status:=.finished }):=by
   intro gs hi h0 x hx;obtain⟨j,hj⟩:=Array.mem_iff_getElem?.1 hx
   by_cases e0:0=j
   .subst e0;simp only[bK,if_true,h0] at hj;cases hj;simp
   rw[aG e0] at hj;rcases hi j x oN hj with h|h<;>rw[h]<;>simp
  have Yx:({ (default:aH) with status:=.finished }:aH).status≠.blocked:=sN;obtain⟨g2,lw2,e2,Fq⟩:=M8 T Yx (rest0:={ timers:=#[],alone:=none,slice:=none }) rfl hb.ok hb.ui DZ hgd abC hc;have e3:xL g' eL=xL g2 lw2:=e2;obtain⟨rfl,rfl⟩:=oQ e3;rcases Fq with hblk|⟨w2,k2,hcr⟩
  .rw[hr'] at hblk;cases hblk
  refine⟨hcr.gok,w2,k1+k2,iJ 0 g.frame.fn g.frame.place es++more,⟨hcr.base.tape.trans hb.tape,by rw[hcr.base.drawn,hb.drawn];omega,aF hb.grows hcr.base.grows,hcr.base.ok,sN,hcr.base.ui⟩,
   (uu (fun e he=>(hb.evs e he).mono hcr.base.grows) _ _).app (Ov hcr.base.grows hcr.lists),fun I d gs sl ha h0 hi=>?_⟩
  obtain⟨ha1,ha2⟩:=xp ha;have hlt:0<gs.size:=(ah.1 h0).1;have h2:=hcr.many (gs.setIfInBounds 0 { (default:aH) with status:=.finished }) { timers:=#[],alone:=none,slice:=sl } (key gs hi hlt) rfl I (d+k1) (by rw[hb.tape,hb.drawn];exact ha2);rw[runT_crowd_comm (P:=P) (sl:=sl) (i:=0) h0 (hm I d ha1),h2,Lp,ru];rfl
 |ended o kW es=>
  have e:=runT_many_ended (P:=P) (gs:=#[g]) (w:=lw) (sl:=none) (i:=0) O7 qU;rw[e] at hs;injection hs with hs1 hs2
  cases hs1
 |spawn g1 c kW es=>
  have e:=runT_crowd_spawn (P:=P) (gs:=#[g]) (w:=lw) (sl:=none) (i:=0) O7 qU;rw[e] at hs;injection hs with hs1 hs2
  injection hs1 with hs3
  have:=congrArg (fun m:Machine=>m.gs.size) hs3;simp[rE,xL] at this
 |_=>rw[qU] at Bi;exact Bi.elim
end
def Ext(W:ak)(I:Nat->dQ->Nat):Prop:=∀i,i<W.drawn->I i=W.tape i
inductive Bar(P:aN)(Stop:aH->ak->Prop):aH->ak->Prop
 |stop {g:aH} {W:ak}:Stop g W->Bar P Stop g W
 |step {g:aH} {W:ak}:(∀I,Ext W I->∃g' W',si P g (dH W I W.drawn) g' W')->
   (∀I,Ext W I->∀g' W',si P g (dH W I W.drawn) g' W'->Bar P Stop g' W')->Bar P Stop g W
section
variable{P:aN}
abbrev Qj:vh:=⟨fun _=>.none⟩
theorem Ib(W:ak):@jB Qj W W:=@jB.mk Qj _ _ rfl rfl rfl (fun _=>.inl rfl) (fun _ _ h=>by cases h) (fun _ _ h=>by cases h)
theorem rO(T:Quiet P){g g':aH}{lw eL:ak}(hg:A0 g)(hok:dI lw)(h:si P g lw g' eL) :
  A0 g'/\dI eL/\eL.tape=lw.tape/\lw.drawn<=eL.drawn/\lw.heap.size<=eL.heap.size/\
   ∀I d,Agree (eL.drawn-lw.drawn) lw.tape lw.drawn I d->si P g (dH lw I d) g' (dH eL I (d+(eL.drawn-lw.drawn))):=by
 letI:=Qj
 obtain⟨Gs,w',k,aP,hb,G6,hm⟩:=CR T hg hok (Ib lw) h;obtain⟨hr,hd,⟨aoq,hs⟩,hr',NL⟩:=h
 have ZX:Idle #[g]:=by
  intro i x h1 h2;have:i<1:=by simpa using (ah.1 h2).1
  omega
 have e0:=hm lw.tape lw.drawn #[g] none (fun _ _=>rfl) rfl ZX;have e1:(#[g].setIfInBounds 0 g') = #[g']:=sN;have hk:eL.drawn-lw.drawn=k:=by rw[hb.drawn];omega
 have e2:eL=dH w' lw.tape (lw.drawn+k):=by
  rw[stepT_solo hr,nP] at hs;have e3:dH lw lw.tape lw.drawn=lw:=rfl;rw[e3,hs] at e0;injection e0 with e4 e5
  injection e4 with e6
  rw[e1,<-nP] at e6;exact(oQ e6).2
 refine⟨Gs,hb.ok,hb.tape,by rw[hb.drawn];omega,hb.grows,fun I d ha=>⟨hr,hd,⟨aP,?_⟩,hr',NL⟩⟩;rw[hk] at ha ⊢;rw[stepT_solo hr,nP,hm I d #[g] none ha rfl ZX,e1,<-nP,e2];rfl
theorem EA:∀(n:Nat) {g g':aH} {W W':ak},g.dyingOn P->g'.dying=none->runN P n (xL g W)≠.next (xL g' W')
 |0,g,g',W,W',h,hd=>by
  intro e;simp only[runN] at e;injection e with e
  obtain⟨rfl,_⟩:=oQ e;obtain⟨_,d,NL,_⟩:=h;rw[hd] at NL;cases NL
 |n+1,g,g',W,W',h,hd=>by
  rcases step_dyingOn (w:=W) h with⟨g1,w1,hs,h'⟩|⟨o,w1,hs,_⟩
  .have hs':oD P (xL g W)=.next (xL g1 w1):=hs
   simp only[runN,hs'];exact EA n h' hd
  have hs':oD P (xL g W)=.ended o w1:=hs;simp only[runN,hs'];intro e;cases e
theorem Rg{g:aH}{W:ak}(h:g.status=.finished\/g.status=.blocked):∃o w',oD P (xL g W)=.ended o w':=by
 obtain⟨fr,cs,st,dy,off⟩:=g;simp only at h;rcases h with rfl|rfl
 .obtain⟨o',w',he,ho⟩:=endWith_ended W 2 (bytes "fatal error: no goroutines (main called runtime.Goexit) - deadlock!\n") (.fatal "no goroutines (main called runtime.Goexit) - deadlock!");refine⟨o',w',?_⟩;simp[oD,stepT,move,ask,askOn,xL,runnable_eq,due,ahead,Goroutine.canRun,List.range_succ,pure];rw[he]
 obtain⟨o',w',he,ho⟩:=endWith_ended W 2 (bytes "fatal error: all goroutines are asleep - deadlock!\n") (.fatal "all goroutines are asleep - deadlock!");refine⟨o',w',?_⟩;simp[oD,stepT,move,ask,askOn,xL,runnable_eq,due,ahead,Goroutine.canRun,List.range_succ,pure];rw[he]
theorem Ip{n:Nat}{g g':aH}{W W':ak}(h:g.status=.finished\/g.status=.blocked)(hr:g'.status=.running):runN P n (xL g W)≠.next (xL g' W'):=by
 cases n with
 |zero=>
  intro e;simp only[runN] at e;injection e with e
  obtain⟨rfl,_⟩:=oQ e;rw[hr] at h;rcases h with h|h<;>cases h
 |succ n=>
  obtain⟨o,w',e⟩:=Rg (P:=P) (W:=W) h;simp only[runN,e];intro e;cases e
theorem JW(T:Quiet P){n:Nat}{g g':aH}{W W':ak}(hg:A0 g)(hok:dI W)(hr:g.status=.running)(hd:g.dying=none)(hr':g'.status=.running)(NL:g'.dying=none)
  (h:runN P (n+1) (xL g W)=.next (xL g' W')):∃g1 W1,si P g W g1 W1:=by
 letI:=Qj
 have Bi:=Ih T hg hd hok (Ib W);have O7:(#[g]:Array aH)[0]?=some g:=rfl;have hst:stepT P (xL g W)=runT P (rE #[g] W none) 0:=by rw[stepT_solo hr,nP]
 simp only[runN,oD,hst] at h;cases qU:fE P true g W with
 |go g1 W1 es=>
  rw[qU] at Bi;have e:=DG (P:=P) (gs:=#[g]) (w:=W) (sl:=none) (i:=0) O7 qU;have e1:(#[g].map (woken P g g1 W1)).setIfInBounds 0 g1 = #[g1]:=sN;have e:runT P (rE #[g] W none) 0=(.next (xL g1 W1),iJ 0 g.frame.fn g.frame.place es):=e.trans (by rw[e1,<-nP]);rw[e] at h;dsimp only at h;rcases Bi with hdy|⟨DZ,hgd,_⟩
  .exact absurd h (EA n hdy NL)
  rcases DZ.status with hs|hs
  .exact⟨g1,W1,hr,hd,⟨_,hst.trans e⟩,hs,hgd⟩
  exact absurd h (Ip (.inl hs) hr')
 |comm g1 cs b sh W1 es=>
  rw[qU] at Bi;obtain⟨DZ,⟨hgd,abC⟩,w1,k1,hb,hm⟩:=Bi;have e:=runT_crowd_comm (P:=P) (gs:=#[g]) (w:=W) (sl:=none) (i:=0) O7 qU;have aby:(#[g].setIfInBounds 0 { (default:aH) with status:=.finished }) = #[{ (default:aH) with status:=.finished }]:=sN;rw[aby] at e;generalize hc:m_ P { timers:=#[],alone:=none,slice:=none } #[{ (default:aH) with status:=.finished }] 0 g1 cs b sh W1=cc at e;obtain⟨st,more⟩:=cc;rw[e] at h;dsimp only at h e;cases st with
  |ended o w2=>cases h
  |next m1=>
   dsimp only at h;obtain⟨g2,W2,e2,Fq⟩:=M8 T (d0:={ (default:aH) with status:=.finished }) sN (rest0:={ timers:=#[],alone:=none,slice:=none }) rfl hb.ok hb.ui DZ hgd abC hc;have e3:m1=xL g2 W2:=e2;subst e3;rcases Fq with hblk|⟨w2,k2,hcr⟩
   .exact absurd h (Ip (.inr hblk) hr')
   exact⟨g2,W2,hr,hd,⟨_,hst.trans e⟩,hcr.run,hcr.dy⟩
 |spawn g1 c W1 es=>
  have e:=runT_crowd_spawn (P:=P) (gs:=#[g]) (w:=W) (sl:=none) (i:=0) O7 qU;rw[e] at h;dsimp only at h
  have h2:runNT P n (rE ((#[g].setIfInBounds 0 g1).push c) W1 none) #[]=(.next (xL g' W'),(runNT P n (rE ((#[g].setIfInBounds 0 g1).push c) W1 none) #[]).2):=by
   have:=runNT_fst P n (rE ((#[g].setIfInBounds 0 g1).push c) W1 none) #[];rw[h] at this;exact Prod.ext this rfl
  have:=runNT_size P n _ _ _ _ h2;simp[rE,xL] at this
 |ended o W1 es=>
  have e:=runT_many_ended (P:=P) (gs:=#[g]) (w:=W) (sl:=none) (i:=0) O7 qU;rw[e] at h;cases h
 |_=>rw[qU] at Bi;exact Bi.elim
theorem least{p:Nat->Prop}:∀n,p n->∃m,p m/\∀j,j<m->¬p j:=by
 intro n
 induction n using Nat.strongRecOn with
 |ind n ih=>
  intro hn
  by_cases h:∃m,m<n/\p m
  .obtain⟨m,h1,h2⟩:=h;exact ih m h1 h2
  exact⟨n,hn,fun j hj hp=>h ⟨j,hj,hp⟩⟩
structure Bad(P:aN)(Stop:aH->ak->Prop)(x:aH × ak):Prop where
 no:¬Bar P Stop x.1 x.2
 gok:A0 x.1
 ok:dI x.2
 run:x.1.status=.running
 dy:x.1.dying=none
theorem Dg(T:Quiet P){Stop:aH->ak->Prop}(hS:∀g W I d,Stop g (dH W I d)->Stop g W)(hSr:∀g W,Stop g W->g.status=.running/\g.dying=none)
  {g:aH} {W:ak} (hg:A0 g) (hok:dI W) (hr:g.status=.running) (hd:g.dying=none)
  (H:∀I,Ext W I->∃n g' W',runN P n (xL g (dH W I W.drawn))=.next (xL g' W')/\Stop g' W'):Bar P Stop g W:=by
 classical
 refine fG fun hno=>?_;let St:={ x:aH × ak // Bad P Stop x }
 let R:St->St->Prop:=fun x y=>∃I,Ext x.1.2 I/\si P x.1.1 (dH x.1.2 I x.1.2.drawn) y.1.1 y.1.2;let Gm:St->Prop:=fun x=>∃I,Ext x.1.2 I/\∀g' W',¬si P x.1.1 (dH x.1.2 I x.1.2.drawn) g' W'
 have next:∀x:St,¬Gm x->∃y,R x y:=by
  rintro⟨⟨g,W⟩,hb⟩ hnd;refine fG fun hny=>hb.no (.step (fun I hτ=>?_) fun I hτ g' W' hl=>?_)
  .exact fG fun h=>hnd ⟨I,hτ,fun g' W' hl=>h ⟨g',W',hl⟩⟩
  refine fG fun J7=>hny ?_;obtain⟨h1,h2,_⟩:=rO T hb.gok (lw:=dH W I W.drawn) hb.ok hl;exact⟨⟨(g',W'),J7,h1,h2,hl.2.2.2.1,hl.2.2.2.2⟩,I,hτ,hl⟩
 let f:St->St:=fun x=>if h:Gm x then x else Classical.choose (next x h)
 have hf:∀x,¬Gm x->R x (f x):=fun x h=>by
  simp only[f,dif_neg h];exact Classical.choose_spec (next x h)
 let seq:Nat->St:=fun n=>Nat.rec ⟨(g,W),hno,hg,hok,hr,hd⟩ (fun _ x=>f x) n
 have QA:∀x y:St,R x y->x.1.2.drawn<=y.1.2.drawn/\(∀p,p<x.1.2.drawn->y.1.2.tape p=x.1.2.tape p)/\
   ∀T',(∀p,p<y.1.2.drawn->T' p=y.1.2.tape p)->si P x.1.1 (dH x.1.2 T' x.1.2.drawn) y.1.1 (dH y.1.2 T' y.1.2.drawn):=by
  rintro x y ⟨I,hτ,hl⟩;obtain⟨_,_,h3,h4,_,h6⟩:=rO T x.2.gok (lw:=dH x.1.2 I x.1.2.drawn) x.2.ok hl;simp only[zM,qq] at h3 h4 h6;refine⟨h4,fun p hp=>by rw[h3];exact hτ p hp,fun T' hT'=>?_⟩;have:=h6 T' x.1.2.drawn fun i hi=>by rw[hT' _ oN,h3]
  rwa [Nat.add_sub_cancel' h4] at this
 have walk:∀(T':Nat->dQ->Nat) (n i:Nat),(∀j,j<n->R (seq (i+j)) (seq (i+j+1))/\∀p,p<(seq (i+j+1)).1.2.drawn->T' p=(seq (i+j+1)).1.2.tape p)->
   runN P n (xL (seq i).1.1 (dH (seq i).1.2 T' (seq i).1.2.drawn))=.next (xL (seq (i+n)).1.1 (dH (seq (i+n)).1.2 T' (seq (i+n)).1.2.drawn)):=by
  intro T' n
  induction n with
  |zero=>intro i _;rfl
  |succ n ih=>
   intro i h;obtain⟨h1,h2⟩:=h 0 oN;obtain⟨_,_,hT⟩:=QA _ _ h1;obtain⟨_,_,⟨aP,hs⟩,_⟩:=hT T' h2
   have hs':oD P (xL (seq i).1.1 (dH (seq i).1.2 T' (seq i).1.2.drawn))=.next (xL (seq (i+1)).1.1 (dH (seq (i+1)).1.2 T' (seq (i+1)).1.2.drawn)):=by
    rw[oD];exact congrArg Prod.fst hs
   simp only[runN,hs']
   have:=ih (i+1) fun j hj=>by
    have:=h (j+1) oN;rwa [show i+(j+1)=i+1+j by omega] at this
   rw[this,show i+1+n=i+(n+1) by omega]
 have mono:∀i n,(∀j,j<n->R (seq (i+j)) (seq (i+j+1)))->(seq i).1.2.drawn<=(seq (i+n)).1.2.drawn/\∀p,p<(seq i).1.2.drawn->(seq (i+n)).1.2.tape p=(seq i).1.2.tape p:=by
  intro i n
  induction n with
  |zero=>intro _;exact⟨aO _,fun _ _=>rfl⟩
  |succ n ih=>
   intro h;obtain⟨h1,h2⟩:=ih fun j hj=>h j oN;obtain⟨h3,h4,_⟩:=QA _ _ (h n oN);exact⟨aF h1 h3,fun p hp=>(h4 p (bw hp h1)).trans (h2 p hp)⟩
 have hseq:∀j,¬Gm (seq j)->R (seq j) (seq (j+1)):=fun j h=>hf _ h;have Uw:∀n T',¬Stop (seq n).1.1 (dH (seq n).1.2 T' (seq n).1.2.drawn):=fun n T' h=>(seq n).2.no (.stop (hS _ _ _ _ h));have af5:∀T',(∀p,p<W.drawn->T' p=W.tape p)->∃n g' W',runN P n (xL (seq 0).1.1 (dH (seq 0).1.2 T' (seq 0).1.2.drawn))=.next (xL g' W')/\Stop g' W':=fun T' h=>H T' h
 by_cases Qx:∃n,Gm (seq n)
 .obtain⟨n0,Yx⟩:=Qx;obtain⟨N,hN,hlt⟩:=least (p:=fun n=>Gm (seq n)) n0 Yx;obtain⟨I,hτ,hnl⟩:=hN;have hR:∀j,j<N->R (seq j) (seq (j+1)):=fun j hj=>hseq j (hlt j hj)
  have agree:∀j,j<=N->∀p,p<(seq j).1.2.drawn->I p=(seq j).1.2.tape p:=by
   intro j hj p hp;have:=mono j (N-j) fun i hi=>hR (j+i) oN;rw[Nat.add_sub_cancel' hj] at this;rw[hτ p (bw hp this.1),this.2 p hp]
  have pre:∀n,n<=N->runN P n (xL (seq 0).1.1 (dH (seq 0).1.2 I (seq 0).1.2.drawn))=.next (xL (seq n).1.1 (dH (seq n).1.2 I (seq n).1.2.drawn)):=by
   intro n hn
   have:=walk I n 0 fun j hj=>by
    rw[dh];exact⟨hR j oN,agree (j+1) oN⟩
   rwa [dh] at this
  obtain⟨n,g',W',hrun,CU⟩:=af5 I (agree 0 oN);rcases Nat.lt_or_ge N n with Dr|hle
  .obtain⟨m,rfl⟩:∃m,n=N+(m+1):=⟨n-N-1,oN⟩
   have yH:∀(a b:Nat) (x y:Machine),runN P a x=.next y->runN P (a+b) x=runN P b y:=by
    intro a
    induction a with
    |zero=>intro b x y h;simp only[runN] at h;injection h with h;rw[h,dh]
    |succ a ih=>
     intro b x y h;rw[show a+1+b=(a+b)+1 by omega];simp only[runN] at h ⊢;cases hs:oD P x with
     |next x'=>rw[hs] at h;simp only at h ⊢;exact ih b x' y h
     |ended o w=>rw[hs] at h;cases h
   rw[yH N (m+1) _ _ (pre N (aO _))] at hrun;obtain⟨hr',NL⟩:=hSr _ _ CU;obtain⟨g1,W1,hl⟩:=JW T (seq N).2.gok (W:=dH (seq N).1.2 I (seq N).1.2.drawn) (seq N).2.ok (seq N).2.run (seq N).2.dy hr' NL hrun;exact hnl _ _ hl
  rw[pre n hle] at hrun;injection hrun with hrun
  obtain⟨h1,h2⟩:=oQ hrun;rw[<-h1,<-h2] at CU;exact Uw n I CU
 have hnd:∀n,¬Gm (seq n):=fun n h=>Qx ⟨n,h⟩;have hR:∀j,R (seq j) (seq (j+1)):=fun j=>hseq j (hnd j)
 have coh:∀i j p,i<=j->p<(seq i).1.2.drawn->(seq j).1.2.tape p=(seq i).1.2.tape p:=fun i j p Vd hp=>by
  have:=(mono i (j-i) fun k _=>hR _).2 p hp;rwa [Nat.add_sub_cancel' Vd] at this
 let I:Nat->dQ->Nat:=fun p=>if h:∃j,p<(seq j).1.2.drawn then(seq (Classical.choose h)).1.2.tape p else fun _=>0
 have agree:∀j p,p<(seq j).1.2.drawn->I p=(seq j).1.2.tape p:=by
  intro j p hp;have hex:∃j,p<(seq j).1.2.drawn:=⟨j,hp⟩
  have hc:=Classical.choose_spec hex;simp only[I,dif_pos hex];rcases Nat.le_total (Classical.choose hex) j with h|h
  .exact(coh _ _ p h hc).symm
  exact coh _ _ p h hp
 obtain⟨n,g',W',hrun,CU⟩:=af5 I (agree 0)
 have:=walk I n 0 fun j hj=>by
  rw[dh];exact⟨hR j,agree (j+1)⟩
 rw[dh] at this;rw[this] at hrun;injection hrun with hrun
 obtain⟨h1,h2⟩:=oQ hrun;rw[<-h1,<-h2] at CU;exact Uw n I CU
end
open Go.ConcN (sumTo upd sumTo_upd upd_ne upd_same)
abbrev Ny:=Past (fun _=>False)
structure Beside(P:aN)(gs:Array aH)(g:aH)(w:ak)(t:Trace)(q:Nat->Nat):Prop where
 zero:gs[0]?=some g
 old:Leavers P t gs q
 past:Ny w.heap.size t
def rq(P:aN)(Q:aH->ak->Prop)(g:aH)(w:ak):Prop:=
 ∀(I:Nat->dQ->Nat) (d:Nat) (gs:Array aH) (sl:Option (Nat × Nat)) (t:Trace) (q:Nat->Nat),Beside P gs g w t q->
  ∃(N:Nat) (gs':Array aH) (g':aH) (w':ak) (d':Nat) (sl':Option (Nat × Nat)) (t':Trace) (q':Nat->Nat),
   runNT P N (rE gs (dH w I d) sl) t=(.next (rE gs' (dH w' I d') sl'),t')/\Beside P gs' g' w' t' q'/\Q g' w'
section
variable{P:aN}{Q Q':aH->ak->Prop}{g:aH}{w:ak}
theorem runNT_add(P:aN):∀(a b:Nat) (x y:Machine) (t u:Trace),runNT P a x t=(.next y,u)->runNT P (a+b) x t=runNT P b y u
 |0,b,x,y,t,u,h=>by
  simp only[runNT] at h;injection h with h1 h2
  injection h1 with h1
  rw[h1,h2,dh]
 |a+1,b,x,y,t,u,h=>by
  rw[show a+1+b=(a+b)+1 by omega];simp only[runNT] at h ⊢;generalize stepT P x=s at h;obtain⟨r,aP⟩:=s;cases r with
  |next x'=>exact runNT_add P a b x' y _ u h
  |ended o w=>cases h
theorem rq.here(h:Q g w):rq P Q g w:=fun I d gs sl t q hb=>⟨0,gs,g,w,d,sl,t,q,rfl,hb,h⟩
theorem rq.bind(h:rq P Q g w)(k:∀g' w',Q g' w'->rq P Q' g' w'):rq P Q' g w:=fun I d gs sl t q hb=>by
 obtain⟨N,gs1,g1,w1,d1,Ei,t1,q1,hr1,hb1,hq1⟩:=h I d gs sl t q hb;obtain⟨M,gs2,g2,w2,d2,sl2,t2,q2,hr2,hb2,Xf⟩:=k g1 w1 hq1 I d1 gs1 Ei t1 q1 hb1;exact⟨N+M,gs2,g2,w2,d2,sl2,t2,q2,by rw[runNT_add P N M _ _ _ _ hr1,hr2],hb2,Xf⟩
theorem rq.mono(h:rq P Q g w)(k:∀g' w',Q g' w'->Q' g' w'):rq P Q' g w:=h.bind fun g' w' hq=>.here (k g' w' hq)
theorem JX{t:Trace}{gs:Array aH}{q:Nat->Nat}(h:Leavers P t gs q):Idle gs:=fun i x hi hx=>(h.old i x hi hx).status
theorem LS{B B':Nat}{t:Trace}{aP:Array MemOp}(h:Ny B t)(hB:B<=B')(ho:ye B' aP):Ny B' (t++aP):=
 (h.mono hB).app0 (fun op hop=>(ho op hop).1) (fun _ _ _ _ hf=>hf.elim) (Am ho t 0) fun op hop=>(ho op hop).2.1
theorem slip{gs:Array aH}{g:aH}{w:ak}{t:Trace}{q:Nat->Nat}(hb:Beside P gs g w t q)(hrun:g.status=.running){i:Nat}{x:aH}(jX:0<i)(hi:gs[i]?=some x)(hx:x.status=.running)(I:Nat->dQ->Nat)(d:Nat)(sl:Option (Nat × Nat)) :
  ∃gs' aP q',runT P (rE gs (dH w I d) sl) i=(.next (rE gs' (dH w I d) sl),aP)/\Beside P gs' g w (t++aP) q'/\gs'.size=gs.size/\sumTo gs.size q'<sumTo gs.size q:=by
 have hq:=hb.old.old i x jX hi;have hi0:(i==0)=false:=sP;have hlt:i<gs.size:=(ah.1 hi).1;cases hqi:q i with
 |zero=>rw[hqi] at hq;rw[hq.1] at hx;cases hx
 |succ k=>
  rw[hqi] at hq;rcases hq with⟨hf,_⟩|⟨_,g',es,hm,aa8,hq'⟩
  .rw[hf] at hx;cases hx
  have jW:=DG (P:=P) (sl:=sl) (i:=i) hi (by rw[hi0];exact aa8 (dH w I d))
  have U1:sumTo gs.size (upd q i k)+(k+1)=sumTo gs.size q+k:=by
   have:=sumTo_upd q k id hlt;simpa [hqi] using this
  refine⟨_,_,upd q i k,jW,⟨?_,⟨fun j y hj hy=>?_,fun j hj=>?_⟩,hb.past.mute oN hm⟩,sN,oN⟩
  .have hne:i≠0:=oN;rw[aG hne,km,hb.zero];simp[woken_run hrun]
  .by_cases YB:i=j
   .subst YB;rw[bn (by simpa using hlt)] at hy;obtain rfl:=bp hy;rw[upd_same,Deaf_own];exact hq'
   rw[aG YB,km] at hy;obtain⟨z,hz,rfl⟩:=eP.1 hy;have hqj:=hb.old.old j z hj hz;rw[woken_quitsD hqj,upd_ne q k (Ne.symm YB),Deaf_other t YB _ (fun op hop=>by obtain⟨e,_,rfl⟩:=Cg hop;rfl)];exact hqj
  rw[Deaf_other t (g':=i) (by simp at hj;omega) _ (fun op hop=>by obtain⟨e,_,rfl⟩:=Cg hop;rfl)];exact hb.old.above j (by simpa using hj)
theorem AQ{gs:Array aH}{g:aH}{w:ak}{t:Trace}{q:Nat->Nat}(hb:Beside P gs g w t q)(hrun:g.status=.running):∀x∈gs,awake x:=by
 intro x hx;obtain⟨i,hi,rfl⟩:=Array.mem_iff_getElem.1 hx;rcases gp i with rfl|jX
 .have:gs[0]=g:=by simpa [aQ hi] using hb.zero
  rw[this];exact awake_of (.inl hrun)
 exact awake_of ((hb.old.old i _ jX (aQ hi)).status.elim .inl fun x=>.inr (.inr x))
theorem rq.adI(hrun:g.status=.running)
  (h:∀(I:Nat->dQ->Nat) (d:Nat) (gs:Array aH) (sl:Option (Nat × Nat)),gs[0]?=some g->Idle gs->
   ∃g' w' k aP,runT P (rE gs (dH w I d) sl) 0=(.next (rE (gs.setIfInBounds 0 g') (dH w' I k) sl),aP)/\ye w'.heap.size aP/\w.heap.size<=w'.heap.size/\rq P Q g' w'):rq P Q g w:=by
 intro I d gs sl t q hb;generalize hM:sumTo gs.size q=M
 induction M using Nat.strongRecOn generalizing d gs sl t q with
 |ind M ih=>
  obtain⟨i,x,d1,Ei,hi,hx,hst⟩:=crowd_pick (P:=P) (w:=dH w I d) (sl:=sl) (AQ hb hrun) ⟨0,g,hb.zero,hrun⟩;have ew:(dH w I d).at d1=dH w I d1:=rfl;rw[ew] at hst;rcases gp i with rfl|jX
  .obtain⟨g',w',k,aP,hr,ho,hs,hk⟩:=h I d1 gs Ei hb.zero (JX hb.old)
   have hb':Beside P (gs.setIfInBounds 0 g') g' w' (t++aP) q:=by
    have hlt:0<gs.size:=(ah.1 hb.zero).1;refine⟨by simp[hlt],⟨fun j y hj hy=>?_,fun j hj=>?_⟩,LS hb.past hs ho⟩
    .have hne:0≠j:=oN;rw[aG hne] at hy;rw[Am ho];exact hb.old.old j y hj hy
    rw[Am ho];exact hb.old.above j (by simpa using hj)
   obtain⟨N,gs2,g2,w2,d2,sl2,t2,q2,hr2,hb2,Xf⟩:=hk I k (gs.setIfInBounds 0 g') Ei (t++aP) q hb';exact⟨N+1,gs2,g2,w2,d2,sl2,t2,q2,by simp only[runNT,hst,hr];exact hr2,hb2,Xf⟩
  obtain⟨gs',aP,q',hr,hb',hsz,hlt⟩:=slip hb hrun jX hi hx I d1 Ei;obtain⟨N,gs2,g2,w2,d2,sl2,t2,q2,hr2,hb2,Xf⟩:=ih (sumTo gs'.size q') (by rw[hsz,<-hM];exact hlt) d1 gs' Ei (t++aP) q' hb' rfl;exact⟨N+1,gs2,g2,w2,d2,sl2,t2,q2,by simp only[runNT,hst,hr];exact hr2,hb2,Xf⟩
theorem Jw[vh](T:Quiet P){Stop:aH->ak->Prop}{g:aH}{W:ak}(h:Bar P Stop g W):A0 g->dI W->∀w,jB W w->
  rq P (fun g' w'=>∃W',Stop g' W'/\jB W' w'/\A0 g'/\dI W'/\W.heap.size<=W'.heap.size) g w:=by
 induction h with
 |stop hs=>exact fun hg hok w V=>.here ⟨_,hs,V,hg,hok,aO _⟩
 |@step g W live down ih=>
  intro hg hok w V;obtain⟨_,_,hl0⟩:=live W.tape fun _ _=>rfl;refine .adI hl0.1 fun I d gs sl h0 hi=>?_;let I':Nat->dQ->Nat:=fun p=>if p<W.drawn then W.tape p else I (d+(p-W.drawn))
  have OU:Ext W I':=fun i hi=>by simp only[I',if_pos hi]
  obtain⟨g',W',hl⟩:=live I' OU;obtain⟨Gs,w',k,aP,hb,ho,hm⟩:=CR T (lw:=dH W I' W.drawn) hg hok (w:=w) ⟨V.size,V.os,V.out,V.at_,V.old,V.kept⟩ hl
  have ha:Agree k (dH W I' W.drawn).tape (dH W I' W.drawn).drawn I d:=fun i hi=>by
   simp only[zM,qq,I',if_neg (show ¬W.drawn+i<W.drawn by omega),Nat.add_sub_cancel_left]
  have hsz:w'.heap.size=W'.heap.size:=hb.ui.size.symm;have hgr:=hb.grows;simp only[oW] at hgr;refine⟨g',w',d+k,aP,hm I d gs sl ha h0 hi,by rw[hsz];exact ho,by rw[hsz,<-V.size];exact hgr,(ih I' OU g' W' hl Gs hb.ok w' hb.ui).mono ?_⟩;rintro g2 w2 ⟨W2,h1,h2,h3,h4,h5⟩;exact⟨W2,h1,h2,h3,h4,aF hgr h5⟩
end
open Go.ConcN (sumTo upd)
def jq(P:aN)(Q:aH->ak->Prop)(g:aH)(W:ak):Prop:=
 ∀K:vh,A0 g->dI W->∀w,jB W w->rq P (fun g' w'=>∃W',Q g' W'/\jB W' w'/\A0 g'/\dI W'/\W.heap.size<=W'.heap.size) g w
section
variable{P:aN}{Q Q':aH->ak->Prop}{g:aH}{W:ak}
theorem jq.here(h:Q g W):jq P Q g W:=fun K hg hok w V=>.here ⟨W,h,V,hg,hok,aO _⟩
theorem jq.bind(h:jq P Q g W)(k:∀g' W',W.heap.size<=W'.heap.size->Q g' W'->jq P Q' g' W'):jq P Q' g W:=fun K hg hok w V=>
 (h K hg hok w V).bind fun g' w' ⟨W',hq,V',Gs,sF,hs⟩=>(k g' W' hs hq K Gs sF w' V').mono fun g2 w2 ⟨W2,h1,h2,h3,h4,h5⟩=>⟨W2,h1,h2,h3,h4,aF hs h5⟩
theorem jq.mono(h:jq P Q g W)(k:∀g' W',W.heap.size<=W'.heap.size->Q g' W'->Q' g' W'):jq P Q' g W:=h.bind fun g' W' hs hq=>.here (k g' W' hs hq)
theorem jq.RR(h:jq P Q g W)(I:Nat->dQ->Nat)(d:Nat):jq P Q g (dH W I d):=fun K hg hok w V=>h K hg hok w ⟨V.size,V.os,V.out,V.at_,V.old,V.kept⟩
theorem jq.ofT{I:Nat->dQ->Nat}{d:Nat}(h:jq P Q g (dH W I d)):jq P Q g W:=fun K hg hok w V=>h K hg hok w ⟨V.size,V.os,V.out,V.at_,V.old,V.kept⟩
theorem Ew(T:Quiet P)(hr:g.status=.running)(hd:g.dying=none)
  (H:∀I,∃n g' W',runN P n (xL g (dH W I 0))=.next (xL g' W')/\Q g' W'/\g'.status=.running/\g'.dying=none) :
  jq P (fun g' W'=>∃I d,Q g' (dH W' I d)) g W:=fun K hg hok w V=>by
 have hb:Bar P (fun g' W'=>(∃I d,Q g' (dH W' I d))/\g'.status=.running/\g'.dying=none) g (dH W W.tape 0):=by
  refine Dg T (fun g' W' I d h=>⟨h.1,h.2⟩) (fun g' W' h=>h.2) hg hok hr hd fun I _=>?_;obtain⟨n,g',W',h1,h2,h3,h4⟩:=H I;exact⟨n,g',W',h1,⟨W'.tape,W'.drawn,h2⟩,h3,h4⟩
 refine(Jw T hb hg hok w ⟨V.size,V.os,V.out,V.at_,V.old,V.kept⟩).mono ?_;rintro g' w' ⟨W',⟨hq,_⟩,V',Gs,sF,hs⟩;exact⟨W',hq,V',Gs,sF,hs⟩
theorem CB(T:Quiet P){fr:b_}{cs:List b_}{Q:b_->ak->Prop}
  (H:∀I,∃fr' W',Steps P (lone fr cs (dH W I 0)) (lone fr' cs W')/\Q fr' W') :
  jq P (fun g' W'=>∃fr' I d,g'=G fr' cs/\Q fr' (dH W' I d)) (G fr cs) W:=by
 refine(Ew T (Q:=fun g' W'=>∃fr',g'=G fr' cs/\Q fr' W') rfl rfl fun I=>?_).mono fun g' W' _ ⟨I,d,fr',h1,h2⟩=>⟨fr',I,d,h1,h2⟩
 obtain⟨fr',W',⟨n,hn⟩,hq⟩:=H I;exact⟨n,G fr' cs,W',hn,⟨fr',rfl,hq⟩,rfl,rfl⟩
def j5(P:aN)(f:d_)(args:Array aj)(W:ak)(R:aj->ak->Prop):Prop:=
 ∀cs,jq P (fun g' W'=>∃fr v I d,g'=G fr cs/\R v W'/\fr.fn=f/\fr.leaving P (dH W' I d) (.returned v)) (G (eG P f args .normal) cs) W
theorem j5.RR{f:d_}{args:Array aj}{R:aj->ak->Prop}(h:j5 P f args W R)(I:Nat->dQ->Nat)(d:Nat):j5 P f args (dH W I d) R:=fun cs=>(h cs).RR I d
theorem yx(T:Quiet P){g':aH}{I:Nat->dQ->Nat}{d:Nat}(h:si P g (dH W I d) g' (dH W I d)):jq P (fun g2 W2=>g2=g'/\∃I d,W2=dH W I d) g W:=fun K hg hok w V=>by
 obtain⟨_,_,_,_,_,hloc⟩:=rO T hg (lw:=dH W I d) hok h;simp only[qq,Nat.sub_self,Nat.add_zero] at hloc;have hs:=fun I'=>hloc I' 0 (fun i hi=>absurd hi oN);refine(Ew T (Q:=fun g2 W2=>g2=g'/\∃I d,W2=dH W I d) h.1 h.2.1 (fun I'=>?_)).mono ?_ K hg hok w V
 .obtain⟨_,_,⟨aP,e⟩,h3,h4⟩:=hs I';refine⟨1,g',dH W I' 0,?_,⟨rfl,I',0,rfl⟩,h3,h4⟩;simp only[runN,oD];have e':stepT P (xL g (dH W I' 0))=(.next (xL g' (dH W I' 0)),aP):=e;rw[e']
 rintro g2 W2 _ ⟨τ1,d1,h1,τ2,d2,h2⟩;have h3:=congrArg (fun x=>dH x W2.tape W2.drawn) h2;exact⟨h1,W2.tape,W2.drawn,h3⟩
theorem sB{fr fr':b_}{cs cs':List b_}{w w':ak}(h:oD P (lone fr cs w)=.next (lone fr' cs' w')):si P (G fr cs) w (G fr' cs') w':=by
 refine⟨rfl,rfl,?_,rfl,rfl⟩;have h':(stepT P (xL (G fr cs) w)).1=.next (xL (G fr' cs') w'):=h
 exact⟨_,Prod.ext h' rfl⟩
theorem Jv(T:Quiet P){fr c:b_}{cs:List b_}{v:aj}{I:Nat->dQ->Nat}{d:Nat}(h:fr.leaving P (dH W I d) (.returned v)) :
  jq P (fun g' W'=>g'=G (c.finish v) cs/\∃I d,W'=dH W I d) (G fr (c::cs)) W:=
 yx T (sB (step_leave_returned h))
theorem FD[K:vh](T:Quiet P){f:d_}{args:Array aj}{R:aj->ak->Prop}(hi:P.inits.idxOf? f=none)(h:j5 P f args W R)(hW:dI W){w:ak}(V:jB W w) :
  ∃N last o w' t',runNT P (N+1) (xL (G (eG P f args .normal) []) w) #[]=(.ended o w',t')/\runN P N (xL (G (eG P f args .normal) []) w)=.next last/\
   oD P last=.ended o w'/\Conc.Good P (fun v w'=>∃W',R v W'/\jB W' w'/\dI W'/\W.heap.size<=W'.heap.size) last o w' t':=by
 have hg0:A0 (G (eG P f args .normal) []):=⟨oI T f args .normal,by simp[G],.inl rfl⟩
 have hb0:Beside P #[G (eG P f args .normal) []] (G (eG P f args .normal) []) w #[] (fun _=>0):=
  ⟨rfl,leavers_one P _,past_nil.mono oN⟩
 obtain⟨N,gs1,g1,w1,d1,Ei,t1,q1,hr1,hb1,W1,⟨fr,v,τ1,d2,rfl,hv,hfn,hl⟩,V1,hg1,wh,hs1⟩:=h [] K hg0 hW w V w.tape w.drawn _ none _ _ hb0
 have last:∀I d,∃w2 es,fE P true (G fr []) (dH w1 I d)=.ended (.done v) (dH w2 I d) es/\jB W1 w2/\∀e∈es,BX w1.heap.size e:=by
  obtain⟨hm,OX,hk,fn,hf,hres⟩:=hl;have hrun:((results fn fr.tmps).runT P (dH W1 τ1 d2) #[]).1=.ok v (dH W1 τ1 d2):=by rw[Sem.runT_eq];exact hres
  rcases xk (Ay (P:=P) fn fr.tmps) (lw:=dH W1 τ1 d2) (w:=w1) wh ⟨V1.size,V1.os,V1.out,V1.at_,V1.old,V1.kept⟩ with⟨why,eL,hx⟩|⟨eL,w2,k,r,new,hx⟩
  .obtain⟨es',he⟩:=hx #[];rw[he] at hrun;cases hrun
  .have h1:=hx.lone #[];rw[h1] at hrun;cases r with
   |error e=>cases hrun
   |ok v'=>
    simp only[Bf] at hrun;injection hrun with hv' hw'
    subst hv'
    have hk0:k=0:=by
     have:=hx.drawn;rw[hw'] at this;simp only[qq] at this;omega
    subst hk0;intro I d;have h2:=hx.many I d (fun i hi=>absurd hi oN) #[];rw[Nat.add_zero,fD] at h2;refine⟨w2,seen P fr.fn new++#[],?_,?_,fun e he=>?_⟩
    .obtain⟨fnn,tmps,todo,defers,mode,kind,ro⟩:=fr;simp only at hm OX hk hf h2 hfn;subst hm OX hk hfn;unfold fE G;simp only;unfold mg;simp only[hf,h2,Bf];unfold uL;simp only[hi];rfl
    .have:=hx.ui;rw[hw'] at this;exact⟨this.size,this.os,this.out,this.at_,this.old,this.kept⟩
    have:=hx.evs e (fZ e he);rw[hw'] at this;simp only[oW] at this;rw[<-V1.size];exact this
 have fin:∀M (gs:Array aH) (d:Nat) (sl:Option (Nat × Nat)) (t:Trace) (q:Nat->Nat),sumTo gs.size q=M->Beside P gs (G fr []) w1 t q->
   ∃N last o w' t',runNT P (N+1) (rE gs (dH w1 w.tape d) sl) t=(.ended o w',t')/\runN P N (rE gs (dH w1 w.tape d) sl)=.next last/\oD P last=.ended o w'/\
    Conc.Good P (fun v w'=>∃W',R v W'/\jB W' w'/\dI W'/\W.heap.size<=W'.heap.size) last o w' t':=by
  intro M
  induction M using Nat.strongRecOn with
  |ind M ih=>
   intro gs d sl t q hM hb;obtain⟨i,x,d1,Ei,hi',hx,hst⟩:=crowd_pick (P:=P) (w:=dH w1 w.tape d) (sl:=sl) (AQ hb rfl) ⟨0,_,hb.zero,rfl⟩;have ew:(dH w1 w.tape d).at d1=dH w1 w.tape d1:=rfl;rw[ew] at hst;rcases gp i with rfl|jX
   .obtain⟨w2,es,hend,hV2,hes⟩:=last w.tape d1;have jW:=runT_many_ended (P:=P) (sl:=Ei) (i:=0) hb.zero hend;have G6:=uu hes fr.fn fr.place;have hP:=LS hb.past (aO _) G6;refine⟨0,rE gs (dH w1 w.tape d) sl,.done v,dH w2 w.tape d1,_,by simp only[runNT,hst,jW];rfl,rfl,by simp only[oD,hst,jW],v,rfl,⟨W1,hv,⟨hV2.size,hV2.os,hV2.out,hV2.at_,hV2.old,hV2.kept⟩,wh,hs1⟩,hP.clean,hP.over,⟨fun y hy=>?_,rfl⟩,fun j y hy hj=>?_⟩
    .obtain⟨j,hj⟩:=List.mem_iff_getElem?.1 hy;rw[List.getElem?_drop] at hj;exact⟨_,(hb.old.old (1+j) y oN (by simpa [rE] using hj)).leaves⟩
    have hq:=hb.old.old j y oN hy;refine⟨q j,?_⟩;have e:(t++iJ 0 fr.fn fr.place es).deaf j (t++iJ 0 fr.fn fr.place es).size=Deaf t j:=Am G6 t j;rw[e];exact hq.hears _
   obtain⟨gs',aP,q',hr,hb',hsz,hlt⟩:=slip hb rfl jX hi' hx w.tape d1 Ei;obtain⟨N,last,o,w',t',h1,h2,h3,h4⟩:=ih (sumTo gs'.size q') (by rw[hsz,<-hM];exact hlt) gs' d1 Ei (t++aP) q' rfl hb';exact⟨N+1,last,o,w',t',by rw[runNT_succ_next (by rw[hst,hr])];exact h1,by rw[runN_succ_next (by rw[hst,hr])];exact h2,h3,h4⟩
 obtain⟨M,last,o,w',t',h1,h2,h3,h4⟩:=fin _ gs1 d1 Ei t1 q1 rfl hb1;have e0:xL (G (eG P f args .normal) []) w=rE #[G (eG P f args .normal) []] (dH w w.tape w.drawn) none:=rfl;refine⟨N+M,last,o,w',t',?_,?_,h3,h4⟩
 .rw[e0,show N+M+1=N+(M+1) by omega,runNT_add P N (M+1) _ _ _ _ hr1];exact h1
 rw[e0,<-runNT_fst P (N+M) _ #[],runNT_add P N M _ _ _ _ hr1,runNT_fst];exact h2
theorem C7[K:vh](w:ak)(hκ:∀b x,K.κ b=some x->b<w.heap.size/\∀o,w.heap[b]?=some o->gb o=false->o=x):∃W,jB W w/\dI W/\W.tape=w.tape/\W.drawn=w.drawn/\∀(b:Nat) (o:Obj),w.heap[b]?=some o->gb o=true->W.heap[b]?=some o:=by
 refine⟨{ w with heap:=w.heap.map fun o=>if gb o then o else .coro none },⟨sN,rfl,rfl,fun b=>?_,fun b x h=>by simpa using (hκ b x h).1,fun b x h h1=>?_⟩,fun b o ho=>?_,rfl,rfl,fun b o ho hk=>?_⟩
 .simp only[km];cases h:w.heap[b]? with
  |none=>exact .inl rfl
  |some o=>
   simp only[dM]
   by_cases hk:gb o=true
   .rw[if_pos hk];exact .inl rfl
   exact .inr ⟨by rw[if_neg hk],o,rfl,by simpa using hk⟩
 .obtain⟨h2,h3⟩:=hκ b x h;simp only[km,aQ h2,dM,ia] at h1;rw[aQ h2]
  by_cases hk:gb w.heap[b]=true
  .rw[if_pos hk] at h1;rw[h1] at hk;cases hk
  rw[h3 _ (aQ h2) (by simpa using hk)]
 .simp only[km] at ho;obtain⟨x,hx,rfl⟩:=eP.1 ho
  by_cases hk:gb x=true
  .rw[if_pos hk];exact .inl hk
  rw[if_neg hk];exact .inr rfl
 simp only[km,ho,dM,hk,if_true]
end
end Go.Lag
