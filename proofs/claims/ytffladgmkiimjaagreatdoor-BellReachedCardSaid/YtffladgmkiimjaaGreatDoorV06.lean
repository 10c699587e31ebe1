/- The tape: what a program of the model's own monad yields hangs on the  .. -/
import Derived.DyingOn
import Derived.Conc.Beside
set_option linter.all false
set_option maxHeartbeats 0
set_option maxRecDepth 1000000
open Array renaming mem_append -> GZ,getElem?_setIfInBounds_ne -> aB,getElem?_eq_getElem -> aO,getElem?_eq_some_iff -> ah,getElem?_setIfInBounds -> bA,getElem?_setIfInBounds_self_of_lt -> bg,append_empty -> dZ,empty_append -> eZ,getElem?_eq_none -> fF,getElem?_map -> kn,getElem?_push -> lD,getElem?_modify -> pz
open Bool renaming and_eq_true -> aF,false_eq_true -> bE
open Classical renaming byContradiction -> fh
open Go renaming choose -> Am,findLabel -> Aq,Goroutine -> aC,Program -> aL,TypeId -> aZ,Value -> aj,World -> ak,Frame -> bT,Addr -> cJ,Question -> dH,FuncId -> dU,runtimePanic -> eu,callFunc -> fG,stepG -> fe,Event -> gq,Sem -> iN,zeroValue -> iW,underlying -> iZ,unwind -> l_,CommCase -> m7,communicate -> mZ,typeInfo -> mf,step -> nO,unsupported -> rf,doReturn -> uo
open Go.Builtin renaming firstCells -> eY,zeroCells -> fO,append_ -> kz,mayShare -> pW
open Go.Conc renaming mem_ofEvents -> BF,runT_crowd_go -> C_,solo_eq_crowd -> nL,crowd -> rh,solo -> xd
open Go.Frame renaming enter -> eo
open Go.GStep renaming after -> BD
open Go.Instr renaming mapUpdate -> Av,findKey -> Dc,indexAt -> gg,findAsking -> jr,index -> m6,loadAt -> mG,checkKey -> nR
open Go.MemAct renaming ofEvent -> fT
open Go.MemOp renaming ofEvents -> iC
open Go.Op renaming equalIn -> tL
open Go.Sem renaming runT -> dx
open Go.World renaming setCell -> ku
open Go.stepG renaming exec -> cA,oper -> eW,apply -> ek
open List renaming getElem_mem -> bG,mem_cons_of_mem -> bY,length_pos_iff -> cB,mem_cons -> cy,all_cons -> dP,mem_map -> dm,mem_cons_self -> dr,mem_toArray -> eR,not_mem_nil -> gJ,getElem?_eq_getElem -> h_,mem_filter -> kx
open Nat renaming le_trans -> aG,le_refl -> aJ,lt_of_lt_of_le -> bD,zero_add -> cO,eq_zero_or_pos -> eX,add_assoc -> qV
open Option renaming map_some -> dJ,map_eq_some_iff -> eH
open Option.some renaming inj -> a7,injEq -> gP
open Pure renaming pure -> eQ
namespace Go
def oN{p:Prop}(h:p:=by omega):p:=h
def kN{p:Prop}(h:p:=by kernel_rfl):p:=h
def sN{p:Prop}(h:p:=by simp):p:=h
def dN{p:Prop}(h:p:=by decide):p:=h
def sP{p:Prop}(h:p:=by simp;omega):p:=h
end Go
namespace Go.Lag
def dn(w:ak)(I:Nat->dH->Nat)(d:Nat):World:={ w with tape:=I,drawn:=d }
def Agree(n:Nat)(I:Nat->dH->Nat)(d:Nat)(I':Nat->dH->Nat)(d':Nat):Prop:=∀i,i<n->I (d+i)=I' (d'+i)
def Agree.le{n m:Nat}{I I':Nat->dH->Nat}{d d':Nat}(h:Agree n I d I' d')(hm:m<=n):Agree m I d I' d':=fun i hi=>h i (bD hi hm)
@[simp] theorem oK (w:ak) (I:Nat->dH->Nat) (d:Nat):(dn w I d).heap=w.heap:=rfl
@[simp] theorem ZG (w:ak) (I:Nat->dH->Nat) (d:Nat):(dn w I d).os=w.os:=rfl
@[simp] theorem zk (w:ak) (I:Nat->dH->Nat) (d:Nat):(dn w I d).tape=I:=rfl
@[simp] theorem qb (w:ak) (I:Nat->dH->Nat) (d:Nat):(dn w I d).drawn=d:=rfl
def qK(w:ak)(I:Nat->dH->Nat)(d:Nat)(a:cJ):(dn w I d).cell? a=w.cell? a:=rfl
def yh(w:ak)(I:Nat->dH->Nat)(d:Nat)(a:cJ):(dn w I d).frozen? a=w.frozen? a:=rfl
def Qv(w:ak)(I:Nat->dH->Nat)(d:Nat)(r:Nat):(dn w I d).shape? r=w.shape? r:=rfl
def Cp(p:aL)(w:ak)(I:Nat->dH->Nat)(d:Nat)(a:cJ)(b:Bool):(dn w I d).farLoad p a b=w.farLoad p a b:=rfl
def Tk(p:aL)(w:ak)(I:Nat->dH->Nat)(d:Nat)(x:cJ)(u:aZ)(k:cJ)(b:Bool):(dn w I d).seen p x u k b=w.seen p x u k b:=rfl
def F9(p:aL)(w:ak)(I:Nat->dH->Nat)(d:Nat)(x:cJ)(u:aZ)(k:cJ)(v:aj)(b:Bool) :
  (dn w I d).viewStore p x u k v b=(w.viewStore p x u k v b).map fun(w',l)=>(dn w' I d,l):=by
 unfold World.viewStore;simp only[Tk];generalize w.seen p x u k b=s;cases s with
 |error e=>by_cases h:tight p p.depth u<;>simp only[h]<;>rfl
 |ok s=>
  obtain⟨c,e,fz,first,like,cells⟩:=s
  by_cases h:tight p p.depth u
  .simp only[h,Bind.bind,Except.bind,eQ,Except.pure];simp only[Bool.not_true,bE,if_false];cases v.bytes? with
   |none=>rfl
   |some bytes=>
    simp only[];split
    .rfl
    generalize (List.foldlM _ c cells:Except String (Array aj))=r;cases r<;>rfl
  simp only[h];rfl
def zL(p:aL)(w:ak)(I:Nat->dH->Nat)(d:Nat)(a:cJ)(v:aj)(b:Bool) :
  (dn w I d).farStore p a v b=(w.farStore p a v b).map fun(w',l)=>(dn w' I d,l):=by
 unfold World.farStore;simp only[oK];split
 .rw[F9];generalize w.viewStore p _ _ a v b=r;cases r<;>rfl
 rfl
def AK:Builtin->Bool
 |.append|.cap|.clear|.close|.copy|.delete|.len|.max|.min|.recover|.panic=>true
 |_=>false
def Ja(c:Call):Bool:=
 match c.callee with
 |.builtin b=>AK b
 |_=>true
def AH(o:Oper):Bool:=
 match o.op with
 |.call c|.go c|.defer c=>Ja c
 |_=>true
def dX:Code->Bool
 |.region _ aM _=>aM.all AH
 |.seq a b=>dX a&&dX b
 |.cond _ a b=>dX a&&dX b
 |.block _ c=>dX c
 |.loop c=>dX c
 |.rangeFunc _ _ a b=>dX a&&dX b
 |.scope c=>dX c
 |_=>true
def KU:Target->Bool
 |.builtin b ..=>AK b
 |.coroexit _=>false
 |_=>true
def pE(d:Deferred):Bool:=KU d.target
def xV(l:Loop):Bool:=(l.pending.all dX)&&dX l.assign&&dX l.body
def fU:Obj->Bool
 |.loop l=>xV l
 |.deferred (some ds)=>ds.all pE
 |.coro _=>false
 |.finalizers ..=>false
 |_=>true
def J9(c:Sys):Prop:=∀os,∃r,Kernel.perform c os=.done (r,os)/\r≠.wouldBlock
def FV{α:Type}(s:iN α):Prop:=∃why,s=.halt (.stuck why)
def Calm(P:aL){α:Type}(Q:α->Prop):iN α->Prop
 |.pure a=>Q a
 |.load _ _ k=>∀v,Calm P Q (k v)
 |.store _ _ _ k=>Calm P Q k
 |.new o k=>fU o=true/\∀r,Calm P Q (k r)
 |.shape _ k=>∀s,Calm P Q (k s)
 |.freeze _ _ k=>Calm P Q k
 |.frozen _ k=>∀b,Calm P Q (k b)
 |.getObj _ k=>(∀o,fU o=true->Calm P Q (k o))/\(FV (k (.coro none))\/(Calm P Q (k (.coro none))/\∀o,fU o=false->k o=k (.coro none)))
 |.setObj _ o k=>fU o=true/\Calm P Q k
 |.choose _ k=>∀n,Calm P Q (k n)
 |.sys c k=>J9 c/\∀r,Calm P Q (k r)
 |.program k=>Calm P Q (k P)
 |.mark m k=>(m=.noRoom\/∃f,m=.extern f)/\Calm P Q k
 |.halt h=>h≠.blocked/\h≠.waiting
def Gone(P:aL){α:Type}(Q:α->Prop)(f:Obj->iN α):Prop:=FV (f (.coro none))\/(Calm P Q (f (.coro none))/\∀o,fU o=false->f o=f (.coro none))
def ng{P:aL}{α:Type}{Q:α->Prop}{f:Obj->iN α}{w:String}(h:f (.coro none)=.halt (.stuck w)):Gone P Q f:=.inl ⟨w,h⟩
def qG{P:aL}{α:Type}{Q:α->Prop}{f:Obj->iN α}(h:Calm P Q (f (.coro none)))(h2:∀o,fU o=false->f o=f (.coro none)):Gone P Q f:=.inr ⟨h,h2⟩
abbrev Any{α:Type}:α->Prop:=fun _=>True
section
variable{P:aL}{α β:Type}{Q:β->Prop}
theorem eM{R:α->Prop}{s:iN α}{f:α->iN β}(hs:Calm P R s)(hf:∀a,R a->Calm P Q (f a)):Calm P Q (s >>= f):=by
 show Calm P Q (s.bind f)
 induction s with
 |pure a=>exact hf a hs
 |load m a k ih=>exact fun v=>ih v (hs v)
 |store m a v k ih=>exact ih hs
 |new o k ih=>exact⟨hs.1,fun r=>ih r (hs.2 r)⟩
 |shape r k ih=>exact fun s=>ih s (hs s)
 |freeze a n k ih=>exact ih hs
 |frozen a k ih=>exact fun b=>ih b (hs b)
 |getObj r k ih=>
  refine⟨fun o ho=>ih o (hs.1 o ho),hs.2.imp (fun⟨why,hw⟩=>⟨why,by show(k (.coro none)).bind f=_;rw[hw];rfl⟩) fun⟨h1,h2⟩=>⟨ih _ h1,fun o ho=>?_⟩⟩;show(k o).bind f=(k (.coro none)).bind f;rw[h2 o ho]
 |setObj r o k ih=>exact⟨hs.1,ih hs.2⟩
 |choose q k ih=>exact fun n=>ih n (hs n)
 |sys c k ih=>exact⟨hs.1,fun r=>ih r (hs.2 r)⟩
 |program k ih=>exact ih P hs
 |mark m k ih=>exact⟨hs.1,ih hs.2⟩
 |halt h=>exact hs
theorem aS{s:iN α}{f:α->iN β}(hs:Calm P Any s)(hf:∀a,Calm P Q (f a)):Calm P Q (s >>= f):=eM hs fun a _=>hf a
theorem cH{a:α}:Calm P Any (eQ a:iN α):=trivial
theorem uf{a:α}:Calm P Any (Sem.pure a:iN α):=trivial
theorem Fp{a:β}(h:Q a):Calm P Q (eQ a:iN β):=h
theorem vN{s:iN α}{f:α->β}(hs:Calm P Any s):Calm P Any (Functor.map f s):=eM (Q:=Any) hs fun _ _=>trivial
theorem bF{w:String}:Calm P Q (stuck w:iN β):=⟨sN,sN⟩
theorem dK{u:Unsupported}:Calm P Q (rf u:iN β):=⟨sN,sN⟩
theorem kF{v:aj}:Calm P Q (goPanic v:iN β):=⟨sN,sN⟩
theorem uh{w:String}:Calm P Q (fatal w:iN β):=⟨sN,sN⟩
theorem qL{w:String}:Calm P Q (throw w:iN β):=⟨sN,sN⟩
theorem tD{a:cJ}{m:Mode}:Calm P Any (load a m):=fun _=>trivial
theorem qM{a:cJ}{v:aj}{m:Mode}:Calm P Any (store a v m):=trivial
theorem lR{o:Obj}(h:fU o=true):Calm P Any (newObj o):=⟨h,fun _=>trivial⟩
theorem ue{r:Nat}:Calm P Any (shape r):=fun _=>trivial
theorem rN{a:cJ}{n:Nat}:Calm P Any (freeze a n):=trivial
theorem rM{a:cJ}:Calm P Any (frozen a):=fun _=>trivial
theorem kr{r:Nat}{f:Obj->iN β}(h:∀o,fU o=true->Calm P Q (f o))(hk:Gone P Q f):Calm P Q (getObj r >>= f):=⟨h,hk⟩
theorem iV{r:Nat}{o:Obj}(h:fU o=true):Calm P Any (setObj r o):=⟨h,trivial⟩
theorem lS{q:dH}:Calm P Any (Am q):=fun _=>trivial
theorem jv:Calm P Any program:=trivial
theorem nK{n:Nat}:Calm P Any (askRoom n):=by
 unfold askRoom;split
 .exact⟨.inl rfl,trivial⟩
 trivial
theorem oW:Calm P Any (mark .noRoom):=⟨.inl rfl,trivial⟩
theorem Fs{f:α->iN β}(hf:∀a,Calm P Any (f a))(l:List α):Calm P Any (l.mapM f):=by
 rw[<-List.mapM'_eq_mapM]
 induction l with
 |nil=>exact cH
 |cons a l ih=>exact aS (hf a) fun _=>aS ih fun _=>cH
theorem qg{f:α->iN β}(hf:∀a,Calm P Any (f a))(l:Array α):Calm P Any (l.mapM f):=by
 rw[Array.mapM_eq_mapM_toList];exact vN (Fs hf _)
theorem CB{γ:Type}{f:β->γ->iN β}(hf:∀a b,Calm P Any (f a b))(b:β)(l:List γ):Calm P Any (l.foldlM f b):=by
 induction l generalizing b with
 |nil=>exact cH
 |cons a l ih=>exact aS (hf b a) fun _=>ih _
theorem js{γ:Type}{f:γ->β->iN (ForInStep β)}(hf:∀a b,Calm P Any (f a b))(l:List γ)(b:β):Calm P Any (forIn l b f):=by
 induction l generalizing b with
 |nil=>exact cH
 |cons a l ih=>
  rw[List.forIn_cons];refine aS (hf a b) fun r=>?_;cases r with
  |done b=>exact cH
  |yield b=>exact ih b
theorem l8{γ:Type}{f:γ->β->iN (ForInStep β)}(hf:∀a b,Calm P Any (f a b))(l:Array γ)(b:β):Calm P Any (forIn l b f):=by
 rw[<-Array.forIn_toList];exact js hf _ _
theorem l7{f:Nat->β->iN (ForInStep β)}(hf:∀a b,Calm P Any (f a b))(l:Std.Legacy.Range)(b:β):Calm P Any (forIn l b f):=by
 rw[Std.Legacy.Range.forIn_eq_forIn_range'];exact js hf _ _
end
section
variable{P:aL}
class K (P:aL) {α:Type} (s:iN α):Prop where
 c:Calm P Any s
theorem bN{p:Prop}(h:p:=by
  repeat' (first|exact K.c|with_reducible (first|exact cH|exact uf|exact bF|exact dK|exact kF|exact uh|exact qL|exact tD|exact qM|exact ue|exact rN|exact rM|exact lS|exact jv|exact nK|exact oW|exact(lR rfl)|exact(iV rfl)|assumption)|exact ih ..|(with_reducible apply ng;exact rfl)|(with_reducible refine qG ?_ (fun o ho=>by cases o<;>first|rfl|(revert ho;simp[fU];done)))|(refine kr (fun _ _=>?_) ?_)|(refine aS ?_ (fun _=>?_))|(refine vN ?_)|(refine qg (fun _=>?_) _)|(refine js (fun _ _=>?_) _ _)|(refine l8 (fun _ _=>?_) _ _)|(refine l7 (fun _ _=>?_) _ _)|split|intro _|dsimp only|trivial)):p:=h
instance (a):K P (viewAt a):=⟨by unfold viewAt;exact bN⟩
instance (a):K P (numberAt a):=⟨by unfold numberAt;exact bN⟩
instance (a):K P (cellsIn a):=⟨by unfold cellsIn;exact bN⟩
instance (a b):K P (asNumber a b):=⟨by unfold asNumber;exact bN⟩
instance (a):K P (behindNumber a):=⟨by unfold behindNumber;exact bN⟩
instance (a):K P (backFromNumber a):=⟨by unfold backFromNumber;exact bN⟩
instance (a):K P (noView a):=⟨by unfold noView;exact bN⟩
instance (a):K P (markStringish a):=⟨by unfold markStringish;exact bN⟩
instance (a):K P (stringish a):=⟨by unfold stringish;exact bN⟩
instance (a b):K P (mayBeOne a b):=⟨by unfold mayBeOne;exact bN⟩
instance (a b):K P (sameAddr a b):=⟨by unfold sameAddr;exact bN⟩
instance (a b):K P (samePointer a b):=⟨by unfold samePointer;exact bN⟩
instance (a):K P (mf a):=⟨by unfold mf;exact bN⟩
theorem jz(x0):Calm P Any (mf x0):=K.c
instance (a):K P (iZ a):=⟨by unfold iZ;exact bN⟩
theorem gS(x0):Calm P Any (iZ x0):=K.c
instance (a):K P (cutType a):=⟨by unfold cutType;exact bN⟩
instance (a):K P (globalAddr a):=⟨by unfold globalAddr;exact bN⟩
instance (a):K P (typeStr a):=⟨by unfold typeStr;exact bN⟩
theorem ud(x0):Calm P Any (typeStr x0):=K.c
instance (a):K P (iW a):=⟨by unfold iW;exact bN⟩
theorem nJ(x0):Calm P Any (iW x0):=K.c
instance (a):K P (sizeOf a):=⟨by unfold sizeOf;exact bN⟩
theorem Mm(x0):Calm P Any (sizeOf x0):=K.c
instance (a):K P (isAgg a):=⟨by unfold isAgg;exact bN⟩
theorem ym(a i n acc):Calm P Any (loadCellsFrom a i n acc):=by
 induction n generalizing i acc with
 |zero=>exact cH
 |succ n ih=>exact aS tD fun _=>ih _ _
instance (a i n acc):K P (loadCellsFrom a i n acc):=⟨ym a i n acc⟩
instance (a b):K P (loadCells a b):=⟨by unfold loadCells;exact bN⟩
theorem uE(a vs i):Calm P Any (storeCells a vs i):=by
 induction vs generalizing i with
 |nil=>exact cH
 |cons v vs ih=>exact aS qM fun _=>ih _
instance (a vs i):K P (storeCells a vs i):=⟨uE a vs i⟩
instance (a b):K P (loadVar a b):=⟨by unfold loadVar;exact bN⟩
theorem ug(x0 x1):Calm P Any (loadVar x0 x1):=K.c
instance (a b c):K P (storeVar a b c):=⟨by unfold storeVar;exact bN⟩
instance (a b):K P (newRow a b):=⟨by unfold newRow;exact bN⟩
theorem Mq(x0 x1):Calm P Any (newRow x0 x1):=K.c
instance (a b):K P (newVar a b):=⟨by unfold newVar;exact bN⟩
theorem Mp(x0 x1):Calm P Any (newVar x0 x1):=K.c
instance (a):K P (elemOf a):=⟨by unfold elemOf;exact bN⟩
theorem Mt(x0):Calm P Any (elemOf x0):=K.c
instance (a b c):K P (part a b c):=⟨by unfold part;exact bN⟩
theorem Ib(x0 x1 x2):Calm P Any (part x0 x1 x2):=K.c
instance {α:Type} (m):K P (panicString m:iN α):=⟨by unfold panicString;exact bN⟩
instance {α:Type} (e):K P (eu e:iN α):=⟨by unfold eu;exact bN⟩
theorem iI{α:Type}(e):Calm P Any (eu e:iN α):=K.c
instance {α:Type} (k x y c):K P (boundsPanic k x y c:iN α):=⟨by unfold boundsPanic;exact bN⟩
instance (a):K P (asIntOf a):=⟨by unfold asIntOf;exact bN⟩
instance (a):K P (asInt a):=⟨by unfold asInt;exact bN⟩
theorem qN(x0):Calm P Any (asInt x0):=K.c
instance (a):K P (asBool a):=⟨by unfold asBool;exact bN⟩
theorem Mu(x0):Calm P Any (asBool x0):=K.c
instance (a):K P (asString a):=⟨by unfold asString;exact bN⟩
theorem kY(x0):Calm P Any (asString x0):=K.c
instance (a):K P (asAgg a):=⟨by unfold asAgg;exact bN⟩
theorem ui(x0):Calm P Any (asAgg x0):=K.c
instance (a):K P (asAddr a):=⟨by unfold asAddr;exact bN⟩
theorem np(x0):Calm P Any (asAddr x0):=K.c
instance (a):K P (byteOf a):=⟨by unfold byteOf;exact bN⟩
instance (a b c):K P (partAt a b c):=⟨by unfold partAt;exact bN⟩
instance (a b):K P (fieldPlace a b):=⟨by unfold fieldPlace;exact bN⟩
theorem C2(x0 x1):Calm P Any (fieldPlace x0 x1):=K.c
instance (a b c):K P (variablesAt a b c):=⟨by unfold variablesAt;exact bN⟩
instance (a b c):K P (intVariablesAt a b c):=⟨by unfold intVariablesAt;exact bN⟩
instance (a b):K P (byteVariablesAt a b):=⟨by unfold byteVariablesAt;exact bN⟩
theorem Fu(a acc n):Calm P Any (loadBytes a acc n):=by
 induction n generalizing acc a with
 |zero=>unfold loadBytes;exact cH
 |succ n ih=>
  unfold loadBytes
  all_goals exact bN
instance (a acc n):K P (loadBytes a acc n):=⟨Fu a acc n⟩
instance (a b):K P (storeBytes a b):=⟨by unfold storeBytes;exact bN⟩
instance (a):K P (Instr.sureAddr a):=⟨by unfold Instr.sureAddr;exact bN⟩
instance (a b):K P (mG a b):=⟨by unfold mG;exact bN⟩
theorem Ae(x0 x1):Calm P Any (mG x0 x1):=K.c
instance (a b c):K P (Instr.storeAt a b c):=⟨by unfold Instr.storeAt;exact bN⟩
theorem yn(x0 x1 x2):Calm P Any (Instr.storeAt x0 x1 x2):=K.c
instance (a b c):K P (Instr.fieldAt a b c):=⟨by unfold Instr.fieldAt;exact bN⟩
theorem yx(x0 x1 x2):Calm P Any (Instr.fieldAt x0 x1 x2):=K.c
instance (a b c):K P (gg a b c):=⟨by unfold gg;exact bN⟩
theorem yu(x0 x1 x2):Calm P Any (gg x0 x1 x2):=K.c
instance (a b c):K P (Instr.alloc a b c):=⟨by unfold Instr.alloc;exact bN⟩
theorem Bi(x0 x1 x2):Calm P Any (Instr.alloc x0 x1 x2):=K.c
instance (a b):K P (Instr.box a b):=⟨by unfold Instr.box;exact bN⟩
theorem Fx(x0 x1):Calm P Any (Instr.box x0 x1):=K.c
instance (a b):K P (Instr.build a b):=⟨by unfold Instr.build;exact bN⟩
theorem Bh(x0 x1):Calm P Any (Instr.build x0 x1):=K.c
instance (a b c):K P (Instr.buildSlice a b c):=⟨by unfold Instr.buildSlice;exact bN⟩
theorem uW(x0 x1 x2):Calm P Any (Instr.buildSlice x0 x1 x2):=K.c
instance (a):K P (Instr.entry a):=⟨by unfold Instr.entry;exact bN⟩
theorem Bg(x0):Calm P Any (Instr.entry x0):=K.c
instance (a b):K P (Instr.extract a b):=⟨by unfold Instr.extract;exact bN⟩
theorem yy(x0 x1):Calm P Any (Instr.extract x0 x1):=K.c
instance (a b c):K P (Instr.field a b c):=⟨by unfold Instr.field;exact bN⟩
theorem Bf(x0 x1 x2):Calm P Any (Instr.field x0 x1 x2):=K.c
instance (a b c):K P (m6 a b c):=⟨by unfold m6;exact bN⟩
theorem Be(x0 x1 x2):Calm P Any (m6 x0 x1 x2):=K.c
instance (a b):K P (Op.twoPlaces a b):=⟨by unfold Op.twoPlaces;exact bN⟩
instance (a b c):K P (Op.addrSub a b c):=⟨by unfold Op.addrSub;exact bN⟩
instance (a b c):K P (Op.addrCmp a b c):=⟨by unfold Op.addrCmp;exact bN⟩
instance (a b c):K P (Op.addrMod a b c):=⟨by unfold Op.addrMod;exact bN⟩
instance (a b c d):K P (Op.floatArith a b c d):=⟨by unfold Op.floatArith;exact bN⟩
instance (a b c d):K P (Op.floatCmp a b c d):=⟨by unfold Op.floatCmp;exact bN⟩
instance (a b c d):K P (Op.intArith a b c d):=⟨by unfold Op.intArith;exact bN⟩
instance (a b c d):K P (Op.intBits a b c d):=⟨by unfold Op.intBits;exact bN⟩
instance (a b c):K P (Op.intCmp a b c):=⟨by unfold Op.intCmp;exact bN⟩
instance (a b c d):K P (Op.intDiv a b c d):=⟨by unfold Op.intDiv;exact bN⟩
instance (a b c d e):K P (Op.shift a b c d e):=⟨by unfold Op.shift;exact bN⟩
instance (a b c):K P (Op.stringOp a b c):=⟨by unfold Op.stringOp;exact bN⟩
instance (a b c):K P (Conv.floatToFloat a b c):=⟨by unfold Conv.floatToFloat;exact bN⟩
instance (a b c):K P (Conv.floatToInt a b c):=⟨by unfold Conv.floatToInt;exact bN⟩
instance (a b):K P (Conv.intToFloat a b):=⟨by unfold Conv.intToFloat;exact bN⟩
instance (a b):K P (Conv.intToInt a b):=⟨by unfold Conv.intToInt;exact bN⟩
instance (a):K P (Conv.intToString a):=⟨by unfold Conv.intToString;exact bN⟩
instance (a b c d):K P (Conv.complexToComplex a b c d):=⟨by unfold Conv.complexToComplex;exact bN⟩
instance (a):K P (Conv.bytesToString a):=⟨by unfold Conv.bytesToString;exact bN⟩
instance (a):K P (Conv.runesToString a):=⟨by unfold Conv.runesToString;exact bN⟩
instance (a b):K P (Conv.stringToBytes a b):=⟨by unfold Conv.stringToBytes;exact bN⟩
instance (a b):K P (Conv.stringToRunes a b):=⟨by unfold Conv.stringToRunes;exact bN⟩
instance (a):K P (Conv.seenAt a):=⟨by unfold Conv.seenAt;exact bN⟩
instance (a b c):K P (Conv.unsafePointer a b c):=⟨by unfold Conv.unsafePointer;exact bN⟩
instance (a b c d):K P (Op.Complex.arith a b c d):=⟨by unfold Op.Complex.arith;exact bN⟩
instance (a b c d):K P (Op.Complex.cmp a b c d):=⟨by unfold Op.Complex.cmp;exact bN⟩
instance (a b c):K P (Op.Complex.conv a b c):=⟨by unfold Op.Complex.conv;exact bN⟩
instance (a b):K P (Op.Complex.add a b):=⟨by unfold Op.Complex.add;exact bN⟩
instance (a b):K P (Op.Complex.sub a b):=⟨by unfold Op.Complex.sub;exact bN⟩
instance (a b):K P (Op.Complex.mul a b):=⟨by unfold Op.Complex.mul;exact bN⟩
instance (a b):K P (Op.Complex.quo a b):=⟨by unfold Op.Complex.quo;exact bN⟩
instance (a b c d):K P (Op.Complex.product a b c d):=⟨by unfold Op.Complex.product;exact bN⟩
instance (a b c d e):K P (Op.Complex.corrected a b c d e):=⟨by unfold Op.Complex.corrected;exact bN⟩
theorem sg(a b c d):Calm P Any (Op.Complex.quotient a b c d):=by
 unfold Op.Complex.quotient;refine aS (K.c) fun t=>?_
 extract_lets jp
 have hjp:∀x,Calm P Any (jp x):=by
  rintro⟨e,f⟩;show Calm P Any (Op.Complex.cmp BinOp.eql FloatKind.f64 c 0 >>= _);refine aS (K.c) fun t=>aS (K.c) fun u=>?_
  extract_lets zero
  split
  .exact cH
  split
  .exact aS (K.c) fun _=>aS (K.c) fun _=>cH
  split
  .exact K.c
  split
  .exact K.c
  exact cH
 clear_value jp
 cases t
 .simp only[bE,if_false];exact aS (K.c) fun _=>aS (K.c) fun _=>aS (K.c) fun _=>aS (K.c) fun _=>aS (K.c) fun _=>aS (K.c) fun _=>aS (K.c) fun _=>aS (K.c) fun _=>aS (K.c) fun _=>aS cH fun _=>hjp _
 simp only[if_true];exact aS (K.c) fun _=>aS (K.c) fun _=>aS (K.c) fun _=>aS (K.c) fun _=>aS (K.c) fun _=>aS (K.c) fun _=>aS (K.c) fun _=>aS (K.c) fun _=>aS (K.c) fun _=>aS cH fun _=>hjp _
instance (a b c d):K P (Op.Complex.quotient a b c d):=⟨sg a b c d⟩
instance (a b c d e i):K P (Op.complexOp a b c d e i):=⟨by unfold Op.complexOp;exact bN⟩
instance (a b):K P (Op.unary a b):=⟨by unfold Op.unary;exact bN⟩
theorem GG(x0 x1):Calm P Any (Op.unary x0 x1):=K.c
theorem C6(n t x y):Calm P Any (tL n t x y):=by
 induction n generalizing t x y with
 |zero=>unfold tL;exact dK
 |succ n ih=>
  unfold tL
  all_goals exact bN
instance (n t x y):K P (tL n t x y):=⟨C6 n t x y⟩
instance (a b c):K P (Op.equal a b c):=⟨by unfold Op.equal;exact bN⟩
theorem Ac(n t x y):Calm P Any (Op.eqGuardIn n t x y):=by
 induction n generalizing t x y with
 |zero=>unfold Op.eqGuardIn;exact dK
 |succ n ih=>
  unfold Op.eqGuardIn
  all_goals exact bN
instance (n t x y):K P (Op.eqGuardIn n t x y):=⟨Ac n t x y⟩
theorem w8(e n t v):Calm P Any (nR e n t v):=by
 induction n generalizing t v with
 |zero=>unfold nR;exact dK
 |succ n ih=>
  unfold nR
  all_goals exact bN
instance (e n t v):K P (nR e n t v):=⟨w8 e n t v⟩
theorem uU(t k es i):Calm P Any (jr t k es i):=by
 induction es generalizing i with
 |nil=>unfold jr;exact cH
 |cons e es ih=>
  unfold jr
  all_goals exact bN
instance (t k es i):K P (jr t k es i):=⟨uU t k es i⟩
instance (a b c):K P (Dc a b c):=⟨by unfold Dc;exact bN⟩
instance (a b c d):K P (Instr.lookup a b c d):=⟨by unfold Instr.lookup;exact bN⟩
theorem Ad(x0 x1 x2 x3):Calm P Any (Instr.lookup x0 x1 x2 x3):=K.c
instance (a b):K P (Instr.makeChan a b):=⟨by unfold Instr.makeChan;exact bN⟩
theorem wZ(x0 x1):Calm P Any (Instr.makeChan x0 x1):=K.c
instance (a b c):K P (Instr.makeFunc a b c):=⟨by unfold Instr.makeFunc;exact bN⟩
theorem wY(x0 x1 x2):Calm P Any (Instr.makeFunc x0 x1 x2):=K.c
instance (a b):K P (Instr.makeInterface a b):=⟨by unfold Instr.makeInterface;exact bN⟩
theorem si(x0 x1):Calm P Any (Instr.makeInterface x0 x1):=K.c
instance (a b):K P (Instr.makeMap a b):=⟨by unfold Instr.makeMap;exact bN⟩
theorem yr(x0 x1):Calm P Any (Instr.makeMap x0 x1):=K.c
instance (a b c):K P (Instr.makeSlice a b c):=⟨by unfold Instr.makeSlice;exact bN⟩
theorem vP(x0 x1 x2):Calm P Any (Instr.makeSlice x0 x1 x2):=K.c
instance (a b):K P (Instr.keyThatStays a b):=⟨by unfold Instr.keyThatStays;exact bN⟩
instance (a b c d):K P (Av a b c d):=⟨by unfold Av;exact bN⟩
theorem oX(x0 x1 x2 x3):Calm P Any (Av x0 x1 x2 x3):=K.c
instance (a b c):K P (Instr.mapEntry a b c):=⟨by unfold Instr.mapEntry;exact bN⟩
theorem wX(x0 x1 x2):Calm P Any (Instr.mapEntry x0 x1 x2):=K.c
instance (a b c d):K P (Instr.entryStore a b c d):=⟨by unfold Instr.entryStore;exact bN⟩
theorem uV(x0 x1 x2 x3):Calm P Any (Instr.entryStore x0 x1 x2 x3):=K.c
instance (a b c):K P (Instr.next a b c):=⟨by unfold Instr.next;exact bN⟩
theorem C7(x0 x1 x2):Calm P Any (Instr.next x0 x1 x2):=K.c
instance (a):K P (Instr.waits a):=⟨by unfold Instr.waits;exact bN⟩
theorem Bc(x0):Calm P Any (Instr.waits x0):=K.c
instance (a):K P (Instr.ready a):=⟨by unfold Instr.ready;exact bN⟩
theorem Bd(x0):Calm P Any (Instr.ready x0):=K.c
instance (a b c):K P (Instr.sliceBound a b c):=⟨by unfold Instr.sliceBound;exact bN⟩
instance (a b c d e i):K P (Instr.sliceBounds a b c d e i):=⟨by unfold Instr.sliceBounds;exact bN⟩
instance (a b c d e):K P (Instr.slice a b c d e):=⟨by unfold Instr.slice;exact bN⟩
instance (a b c d e):K P (Instr.sliceAt a b c d e):=⟨by unfold Instr.sliceAt;exact bN⟩
theorem yo(x0 x1 x2 x3 x4):Calm P Any (Instr.sliceAt x0 x1 x2 x3 x4):=K.c
instance (a b):K P (Instr.arrayAt a b):=⟨by unfold Instr.arrayAt;exact bN⟩
theorem yz(x0 x1):Calm P Any (Instr.arrayAt x0 x1):=K.c
instance (a b):K P (Builtin.holdsCells a b):=⟨by unfold Builtin.holdsCells;exact bN⟩
instance (a b c d e):K P (pW a b c d e):=⟨by unfold pW;exact bN⟩
theorem uX(x0 x1 x2 x3 x4):Calm P Any (pW x0 x1 x2 x3 x4):=K.c
instance (a):K P (Builtin.lenOf a):=⟨by unfold Builtin.lenOf;exact bN⟩
theorem yB(x0):Calm P Any (Builtin.lenOf x0):=K.c
instance (a b c):K P (eY a b c):=⟨by unfold eY;exact bN⟩
theorem nt(x0 x1 x2):Calm P Any (eY x0 x1 x2):=K.c
instance (a b c):K P (Builtin.cap_ a b c):=⟨by unfold Builtin.cap_;exact bN⟩
theorem Ag(x0 x1 x2):Calm P Any (Builtin.cap_ x0 x1 x2):=K.c
instance (a b c):K P (Builtin.clear_ a b c):=⟨by unfold Builtin.clear_;exact bN⟩
theorem w_(x0 x1 x2):Calm P Any (Builtin.clear_ x0 x1 x2):=K.c
theorem pF(x0 x1 x2):Calm P Any (Builtin.close_ x0 x1 x2):=by
 unfold Builtin.close_;obtain⟨l⟩:=x2;rcases l with _|⟨a,_|⟨b,_|⟨c,_|⟨d,l⟩⟩⟩⟩
 all_goals (try dsimp only)
 all_goals (try (cases a<;>try dsimp only))
 all_goals (try (rename_i r;cases r<;>try dsimp only))
 all_goals (try exact bF)
 all_goals (try exact K.c)
 all_goals exact bN
instance (x0 x1 x2):K P (Builtin.close_ x0 x1 x2):=⟨pF x0 x1 x2⟩
instance (a b c):K P (Builtin.copy_ a b c):=⟨by unfold Builtin.copy_;exact bN⟩
theorem yC(x0 x1 x2):Calm P Any (Builtin.copy_ x0 x1 x2):=K.c
instance (a b c):K P (Builtin.delete_ a b c):=⟨by unfold Builtin.delete_;exact bN⟩
theorem vQ(x0 x1 x2):Calm P Any (Builtin.delete_ x0 x1 x2):=K.c
instance (a b c):K P (Builtin.len_ a b c):=⟨by unfold Builtin.len_;exact bN⟩
theorem Af(x0 x1 x2):Calm P Any (Builtin.len_ x0 x1 x2):=K.c
instance (a b):K P (Builtin.max2 a b):=⟨by unfold Builtin.max2;exact bN⟩
instance (a b):K P (Builtin.min2 a b):=⟨by unfold Builtin.min2;exact bN⟩
theorem rP(x0 x1 x2):Calm P Any (Builtin.max_ x0 x1 x2):=by
 unfold Builtin.max_;split
 .first|exact bF|exact cH
 refine CB (fun _ _=>K.c) _ _
instance (x0 x1 x2):K P (Builtin.max_ x0 x1 x2):=⟨rP x0 x1 x2⟩
theorem rO(x0 x1 x2):Calm P Any (Builtin.min_ x0 x1 x2):=by
 unfold Builtin.min_;split
 .first|exact bF|exact cH
 refine CB (fun _ _=>K.c) _ _
instance (x0 x1 x2):K P (Builtin.min_ x0 x1 x2):=⟨rO x0 x1 x2⟩
theorem tG(x0 x1 x2):Calm P Any (Builtin.unsafeAdd_ x0 x1 x2):=by
 unfold Builtin.unsafeAdd_;obtain⟨l⟩:=x2;rcases l with _|⟨a,_|⟨b,_|⟨c,_|⟨d,l⟩⟩⟩⟩
 all_goals (try dsimp only)
 all_goals (try (cases a<;>try dsimp only))
 all_goals (try (rename_i r;cases r<;>try dsimp only))
 all_goals (try exact bF)
 all_goals (try exact K.c)
 all_goals exact bN
instance (x0 x1 x2):K P (Builtin.unsafeAdd_ x0 x1 x2):=⟨tG x0 x1 x2⟩
theorem lu(x0 x1 x2):Calm P Any (Builtin.ssaWrapNilChk_ x0 x1 x2):=by
 unfold Builtin.ssaWrapNilChk_;obtain⟨l⟩:=x2;rcases l with _|⟨a,_|⟨b,_|⟨c,_|⟨d,l⟩⟩⟩⟩
 .exact bF
 .exact bF
 .exact bF
 .cases b<;>try exact bF
  cases c<;>try exact bF
  cases a<;>try exact bF
  rename_i s1 s2 r;cases r with
  |some r=>exact cH
  |none=>
   dsimp only;refine aS lS fun _=>?_
   have key:∀(o:Option aZ),Calm P Any (match o with
     |some pt=>do
      let .pointer t <-iZ pt|stuck "ssa:wrapnilchk: pointer type expected"
      let .named name _:=(<-mf t).desc|stuck "ssa:wrapnilchk: defined type expected"
      let some m:=String.fromUTF8? s2|stuck "ssa:wrapnilchk: the method's name is not UTF-8"
      let base:=(name.splitOn "[").headD ""
      let targs:=if base==name then "" else "[...]"
      match ((base.splitOn "/").getLastD "").splitOn "." with
      |[_,typ]=>
       eu (.plain ("value method "++toString base++toString targs++ "."++toString m++ " called using nil *"++toString typ++toString targs++ " pointer"))
      |_=>rf (.noEntry "builtin/ssaWrapNilChk.dot in the package path")
     |_=>stuck "ssa:wrapnilchk: no argument types" : iN aj):=by
    intro o;cases o with
    |none=>exact bF
    |some pt=>
     refine aS (K.c) fun u=>?_;cases u<;>try exact bF
     refine aS (K.c) fun u=>?_;generalize u.desc=d;cases d<;>try exact bF
     dsimp only;generalize String.fromUTF8? s2=o2;cases o2<;>try exact bF
     dsimp only
     generalize String.splitOn _ "." = sp;split
     .exact K.c
     exact dK
   split
   .exact aS (K.c) fun _=>key _
   exact key _
 exact bF
instance (x0 x1 x2):K P (Builtin.ssaWrapNilChk_ x0 x1 x2):=⟨lu x0 x1 x2⟩
theorem tE(t x):Calm P Any (Instr.range t x):=by
 unfold Instr.range;refine aS (K.c) fun _=>?_
 repeat' (first|exact cH|exact bF|exact dK|exact(Fp rfl)|exact(lR ‹_›)|(with_reducible apply ng;exact rfl)|(with_reducible refine qG ?_ (fun o ho=>by cases o<;>first|rfl|(revert ho;simp[fU];done)))|(refine kr (fun _ _=>?_) ?_)|(refine eM (R:=fun o=>fU o=true) ?_ (fun _ _=>?_))|(refine aS ?_ (fun _=>?_))|split|dsimp only)
instance (t x):K P (Instr.range t x):=⟨tE t x⟩
instance (a b c d):K P (Instr.typeAssert a b c d):=⟨by unfold Instr.typeAssert;exact bN⟩
theorem uT(x0 x1 x2 x3):Calm P Any (Instr.typeAssert x0 x1 x2 x3):=K.c
instance (a b c):K P (movedNumber a b c):=⟨by unfold movedNumber;exact bN⟩
instance (a b c):K P (movedPointer a b c):=⟨by unfold movedPointer;exact bN⟩
instance (a b c d e i):K P (eqGuard a b c d e i):=⟨by unfold eqGuard;exact bN⟩
theorem JQ(x0 x1 x2 x3 x4 x5):Calm P Any (eqGuard x0 x1 x2 x3 x4 x5):=K.c
theorem Fw(x0 x1 x2 x3):Calm P Any (binOp x0 x1 x2 x3):=by
 unfold binOp
 all_goals exact bN
instance (x0 x1 x2 x3):K P (binOp x0 x1 x2 x3):=⟨Fw x0 x1 x2 x3⟩
theorem Ab(x0 x1 x2):Calm P Any (convert x0 x1 x2):=by
 unfold convert
 all_goals exact bN
instance (x0 x1 x2):K P (convert x0 x1 x2):=⟨Ab x0 x1 x2⟩
end
section
variable{P:aL}
theorem Vf{β:Type}{Q:β->Prop}{c:Prop}[Decidable c]{s t:iN β}(hs:Calm P Q s)(ht:Calm P Q t):Calm P Q (if c then s else t):=by
 split
 .exact hs
 exact ht
theorem Mv:J9 .env:=fun os=>⟨.strings os.env,rfl,sN⟩
theorem Gz:Calm P Any Instr.panicnil:=by
 unfold Instr.panicnil;refine aS (?_:Calm P Any (sys .env)) fun r=>?_
 .exact⟨Mv,fun _=>trivial⟩
 split
 .exact aS jv fun _=>cH
 exact bF
theorem tF(x):Calm P Any (Instr.panic x):=by
 unfold Instr.panic;split
 .exact kF
 .refine aS Gz fun n=>?_;split
  .exact kF
  exact iI _
 exact bF
theorem Bb(zeros:Bool)(x0:Array aZ)(x:aj)(elem:aZ)(size pg DV n:Nat)(base:Option cJ)(s:aj)(appended:iN (Array aj))(ha:Calm P Any appended) :
  Calm P Any (if pg+n<=DV then do
    let new <-appended
    if let some a:=base then storeCells (a.add (pg*size)) new.toList
    pure (.slice base (pg+n) DV)
   else do
    if ((pg+n:Nat):Int)>IntKind.i64.max/\(zeros=true\/(<-mf elem).bytes=0) then eu (.error "growslice: len out of range")
    if Builtin.nextslicecap (pg+n) DV*(<-mf elem).bytes>2 ^ 48 then(if zeros=true then eu (.error "growslice: len out of range") else do
     if !(<-pW size pg n base x) then mark .noRoom
     rf (.resourceLimit "append: a slice or a string whose bytes no memory bears"))
    let mV <-Am (.appendCap (pg+n) DV elem)
    askRoom (mV*(<-mf elem).bytes)
    let old <-eY size pg s;let new <-appended;let rest:=fO (<-iW elem).cells (mV-(pg+n))
    pure (.slice (some (<-newRow elem (old++new++rest))) (pg+n) mV:aj):iN aj):=by
 repeat' (first
   |(with_reducible first|exact ha|exact cH|exact dK|exact lS|exact nK|exact oW)
   |(with_reducible first|exact iI ..|exact jz ..|exact nJ ..|exact Mq ..|exact uE ..|exact nt ..|exact uX ..)
   |(refine aS ?_ (fun _=>?_))|split|dsimp only)
theorem vR(x0 x1 x2):Calm P Any (kz x0 x1 x2):=by
 unfold kz;split
 .rename_i ajk s x _;refine aS (gS ..) fun u=>?_;split
  .rename_i elem;split
   .rename_i base pg DV _;refine aS (Mm ..) fun size=>?_
    have key:∀(zeros:Bool) (n:Nat),Calm P Any (if pg+n<=DV then do
      let new <-(if !zeros then eY size n x else if n*size=0 then pure #[] else do pure (fO (<-iW elem).cells n):iN (Array aj))
      if let some a:=base then storeCells (a.add (pg*size)) new.toList
      pure (.slice base (pg+n) DV)
     else do
      if ((pg+n:Nat):Int)>IntKind.i64.max/\(zeros=true\/(<-mf elem).bytes=0) then eu (.error "growslice: len out of range")
      if Builtin.nextslicecap (pg+n) DV*(<-mf elem).bytes>2 ^ 48 then(if zeros=true then eu (.error "growslice: len out of range") else do
       if !(<-pW size pg n base x) then mark .noRoom
       rf (.resourceLimit "append: a slice or a string whose bytes no memory bears"))
      let mV <-Am (.appendCap (pg+n) DV elem)
      askRoom (mV*(<-mf elem).bytes)
      let old <-eY size pg (.slice base pg DV);let new <-(if !zeros then eY size n x else if n*size=0 then pure #[] else do pure (fO (<-iW elem).cells n):iN (Array aj))
      let rest:=fO (<-iW elem).cells (mV-(pg+n))
      pure (.slice (some (<-newRow elem (old++new++rest))) (pg+n) mV:aj):iN aj):=by
     intro zeros n;refine Bb zeros x0 x elem size pg DV n base _ _ ?_;split
     .exact nt ..
     split
     .exact cH
     exact aS (nJ ..) fun _=>cH
    dsimp only
    repeat' (first
     |(with_reducible first|exact cH|exact bF|exact lS|exact iI ..|exact gS ..|exact qN ..|exact jz ..|exact yB ..)
     |exact key _ _|(with_reducible refine Vf ?_ ?_)|(refine aS ?_ (fun _=>?_))|split)
   exact bF
  exact bF
 exact bF
end
def eP:Next->Prop
 |.value _|.skip|.enter ..|.recover|.comm ..=>True
 |.round _ _ _ assign body=>dX assign=true/\dX body=true
 |.defer d|.spawn d=>pE d=true
 |_=>False
structure Vq(P:aL):Prop where
 body:∀(f:dU) (fn:Func) (c:Code),P.funcs[f]?=some fn->fn.body=some c->dX c=true
 ext:∀(f:dU) (fn:Func) (args:Array aj),P.funcs[f]?=some fn->fn.body=none->Calm P eP (fG f args)
 name:∀(f:dU) (fn:Func),P.funcs[f]?=some fn->(fn.name == "runtime.NumGoroutine")=false
section
variable{P:aL}
theorem fB{α:Type}{Q:α->Prop}(e):Calm P Q (eu e:iN α):=by
 unfold eu
 repeat' (first
   |(with_reducible first|exact kF|exact jv|exact Mt ..|exact Mp ..)|(refine aS ?_ (fun _=>?_))|split|dsimp only)
theorem JS(b ats t cs args)(hb:AK b=true):Calm P eP (builtin b ats t cs args):=by
 cases b<;>first|(exact absurd hb dN)|skip
 all_goals unfold builtin
 all_goals dsimp only
 all_goals first
  |exact aS (vR ..) fun _=>trivial
  |exact aS (Ag ..) fun _=>trivial
  |exact aS (w_ ..) fun _=>trivial
  |exact aS (pF ..) fun _=>trivial
  |exact aS (yC ..) fun _=>trivial
  |exact aS (vQ ..) fun _=>trivial
  |exact aS (Af ..) fun _=>trivial
  |exact aS (rP ..) fun _=>trivial
  |exact aS (rO ..) fun _=>trivial
  |exact aS (tF ..) fun _=>trivial
  |trivial
theorem r_(T:Vq P)(f args):Calm P eP (fG f args):=by
 cases hf:P.funcs[f]? with
 |none=>
  unfold fG;refine eM (R:=fun p=>p=P) (show P=P from rfl) ?_;rintro p rfl;rw[hf];exact bF
 |some fn=>
  cases hb:fn.body with
  |none=>exact T.ext f fn args hf hb
  |some c=>
   unfold fG;refine eM (R:=fun p=>p=P) (show P=P from rfl) ?_;rintro p rfl;rw[hf];simp only[T.name f fn hf,hb,Option.isNone_some,bE,if_false];exact trivial
theorem qO(t x):Calm P Any (Place.get t x):=by
 cases x
 .exact cH
 exact ug ..
theorem CA(l t x):Calm P Any (follow l t x):=by
 induction l generalizing t x with
 |nil=>exact cH
 |cons s l ih=>
  unfold follow
  repeat' (first
   |(with_reducible first|exact cH|exact bF|exact gS ..|exact np ..|exact qO ..|exact C2 ..|exact Ib ..)|exact ih ..
   |(refine aS ?_ (fun _=>?_))|split)
theorem uF(a b c d):Calm P Any (receiverAt a b c d):=by
 unfold receiverAt
 repeat' (first
   |(with_reducible first|exact cH|exact bF|exact gS ..|exact np ..|exact qO ..|exact ug ..|exact lu ..)
   |(refine aS ?_ (fun _=>?_))|split)
theorem A8(a b c d):Calm P Any (receiverVia a b c d):=by
 unfold receiverVia;refine aS (CA ..) fun _=>?_;exact uF ..
theorem Mr(n t v s):Calm P Any (method n t v s):=by
 induction n generalizing t v with
 |zero=>exact dK
 |succ n ih=>
  unfold method
  repeat' (first
   |(with_reducible first|exact cH|exact bF|exact iI ..|exact jz ..|exact CA ..|exact qO ..|exact uF ..)|exact ih ..
   |(refine aS ?_ (fun _=>?_))|split)
theorem A_(l t x):Calm P Any (followBlind l t x):=by
 induction l generalizing t x with
 |nil=>exact cH
 |cons s l ih=>
  unfold followBlind
  repeat' (first
   |(with_reducible first|exact cH|exact bF|exact gS ..|exact Ib ..)|exact ih ..
   |(refine aS ?_ (fun _=>?_))|split)
theorem GD(n t v s):Calm P Any (nilAhead n t v s):=by
 induction n generalizing t v with
 |zero=>exact cH
 |succ n ih=>
  unfold nilAhead
  repeat' (first
   |(with_reducible first|exact cH|exact bF|exact jz ..|exact gS ..|exact A_ ..)|exact ih ..
   |(refine aS ?_ (fun _=>?_))|split)
theorem uG(T:Vq P)(r n args):Calm P eP (callMethod r n args):=by
 unfold callMethod;split
 .exact aS jv fun _=>aS (Mr ..) fun _=>r_ T ..
 .exact fB _
 exact bF
theorem l6(l):Calm P (fun r=>xV r=true) (Instr.getLoop l):=by
 unfold Instr.getLoop;refine kr (fun o ho=>?_) (ng rfl);split
 .exact ho
 exact bF
theorem Oz(l args):Calm P eP (Instr.yield l args):=by
 unfold Instr.yield;refine eM (l6 l) fun r hr=>?_
 have cV:dX r.assign=true/\dX r.body=true:=by
  simp only[xV,aF] at hr;exact⟨hr.1.2,hr.2⟩
 split
 .exact aS bF fun _=>cV
 exact cV
theorem rL(T:Vq P)(t args)(ht:KU t=true):Calm P eP (invoke t args):=by
 unfold invoke;split
 .exact fB _
 .exact JS _ _ _ _ _ ht
 .exact r_ T ..
 .split
  .exact uG T ..
  exact bF
 .split
  .refine aS (gS ..) fun _=>?_;exact uG T ..
  exact bF
 .split
  .refine aS (A8 ..) fun _=>?_;exact r_ T ..
  exact bF
 .exact Oz _ _
 .exact bF
 cases ht
theorem l5(U c t)(hc:Ja c=true):Calm P (fun d=>pE d=true) (resolve U c t):=by
 unfold resolve;unfold Ja at hc;split
 .rename_i b hb;rw[hb] at hc;exact hc
 .show pE _=true;rfl
 unfold Deferred.ofValue;split
 .show pE _=true;rfl
 .show pE _=true;rfl
 exact bF
theorem eh{s:iN aj}(h:Calm P Any s):Calm P eP (do pure (.value (<-s))):=aS h fun _=>trivial
theorem tv{s:iN Unit}(h:Calm P Any s):Calm P eP (do s;pure .skip):=aS h fun _=>trivial
theorem Ms(T:Vq P)(U o)(ho:AH o=true):Calm P eP (execOp U o):=by
 unfold AH at ho;unfold execOp;cases hop:o.op with
 |nilCheck x=>
  dsimp only
  repeat' (first|(with_reducible first|exact fB _|exact jv|exact GD ..|exact dK)|exact Fp (show eP _ from trivial)|(refine aS ?_ (fun _=>?_))|split)
 |call c=>
  rw[hop] at ho;exact eM (l5 _ _ _ ho) fun d hd=>rL T _ _ hd
 |go c=>
  rw[hop] at ho;exact eM (l5 _ _ _ ho) fun d hd=>hd
 |defer c=>
  rw[hop] at ho;exact eM (l5 _ _ _ ho) fun d hd=>hd
 |recv ct ch ok=>
  dsimp only;refine aS (gS ..) fun _=>?_;split
  .exact aS (nJ ..) fun _=>trivial
  exact bF
 |select cs b=>
  dsimp only;exact aS (qg (fun _=>aS (nJ ..) fun _=>cH) _) fun _=>trivial
 |pick c a b=>
  dsimp only;refine aS (Mu ..) fun _=>?_;exact trivial
 |binOp op t x y u=>exact eh (aS (JQ ..) fun _=>Fw ..)
 |alloc=>exact eh (Bi ..)
 |box=>exact eh (Fx ..)
 |build=>exact eh (Bh ..)
 |buildSlice=>exact eh (uW ..)
 |load=>exact eh (Ae ..)
 |store=>exact tv (yn ..)
 |ready=>exact tv (Bd _)
 |waits=>exact eh (Bc _)
 |sliceToArrayPointer=>exact eh (yz ..)
 |makeInterface=>exact eh (si ..)
 |makeFunc=>exact eh (wY ..)
 |makeMap=>exact eh (yr ..)
 |makeChan=>exact eh (wZ ..)
 |makeSlice=>exact eh (vP ..)
 |slice=>exact eh (yo ..)
 |fieldAddr=>exact eh (yx ..)
 |field=>exact eh (Bf ..)
 |indexAddr=>exact eh (yu ..)
 |index=>exact eh (Be ..)
 |lookup=>exact eh (Ad ..)
 |mapUpdate=>exact tv (oX ..)
 |insert=>exact tv (oX ..)
 |mapEntry=>exact eh (wX ..)
 |entryStore=>exact tv (uV ..)
 |range=>exact eh (tE ..)
 |next=>exact eh (C7 ..)
 |entry=>exact eh (Bg ..)
 |typeAssert=>exact eh (uT ..)
 |extract=>exact eh (yy ..)
 |panic=>exact eh (tF ..)
 |unOp=>exact eh (GG ..)
 |convert=>exact eh (Ab ..)
 |move|assign|send=>exact(show eP _ from trivial)
theorem Fv(fn tmps params assign body around)(ha:dX assign=true)(hb:dX body=true):Calm P (fun r=>r.2.all pE=true) (Instr.enterLoop fn tmps params assign body around):=by
 unfold Instr.enterLoop
 extract_lets jp
 have hjp:∀x:Nat × List Deferred,x.2.all pE=true->Calm P (fun r=>r.2.all pE=true) (jp x):=by
  rintro⟨d,m⟩ hm;refine aS (lR ?_) fun _=>hm;simp[fU,xV,ha,hb]
 clear_value jp
 split
 .exact eM (l6 _) fun _ _=>hjp _ rfl
 exact aS (lR rfl) fun _=>hjp _ rfl
theorem C5(l):Calm P Any (Instr.beginRound l):=by
 unfold Instr.beginRound;refine eM (l6 l) fun r hr=>aS (iV hr) fun _=>?_;split<;>first|exact cH|exact iI _
theorem GF(l jump)(hj:jump.all dX=true):Calm P Any (Instr.endRound l jump):=by
 unfold Instr.endRound;refine eM (l6 l) fun r hr=>aS (iV ?_) fun _=>cH;simp only[xV,aF] at hr;simp[fU,xV,hj,hr.1.2,hr.2]
theorem JR(l):Calm P (fun j:Option Code=>j.all dX=true) (Instr.endLoop l):=by
 unfold Instr.endLoop;refine eM (l6 l) fun r hr=>?_
 have hp:r.pending.all dX=true:=by
  simp only[xV,aF] at hr;exact hr.1.1
 dsimp only;split
 .exact aS (fB _) fun _=>aS (iV hr) fun _=>hp
 exact aS (iV hr) fun _=>hp
theorem Aa(l d)(hd:pE d=true):Calm P Any (Instr.deferInRound l d):=by
 unfold Instr.deferInRound;refine eM (l6 l) fun r hr=>kr (fun o ho=>?_) (ng rfl);split
 .refine iV ?_;simp only[fU,dP,hd,Bool.true_and];exact ho
 .exact qL
 exact bF
theorem zZ(b):Calm P (fun ds:List Deferred=>ds.all pE=true) (Instr.takeDeferred b):=by
 unfold Instr.takeDeferred;refine kr (fun o ho=>?_) (ng rfl);split
 .exact aS (iV rfl) fun _=>ho
 exact bF
theorem z_(fn tmps):Calm P Any (results fn tmps):=by
 unfold results;refine aS (qg (fun r=>?_) _) fun _=>cH;split
 .exact cH
 exact aS (np ..) fun _=>ug ..
end
def dv(w:ak):Prop:=∀(b:Nat) (o:Obj),w.heap[b]?=some o->fU o=true\/o=.coro none
def Bu(B:Nat)(e:gq):Prop:=
 (∃a,e.loc=.cell a/\a.block<B)\/(∃r,e.loc=.obj r/\r<B)\/e.loc=.output\/e.loc=.mark .noRoom\/∃f,e.loc=.mark (.extern f)
def Bu.mono{B B':Nat}{e:gq}(h:Bu B e)(hB:B<=B'):Bu B' e:=by
 rcases h with⟨a,h1,h2⟩|⟨r,h1,h2⟩|h|h|h
 .exact .inl ⟨a,h1,oN⟩
 .exact .inr (.inl ⟨r,h1,oN⟩)
 .exact .inr (.inr (.inl h))
 .exact .inr (.inr (.inr (.inl h)))
 exact .inr (.inr (.inr (.inr h)))
def PZ{w:ak}{a:cJ}{v:aj}(h:w.cell? a=some v):a.block<w.heap.size:=by
 unfold World.cell? at h;rcases Nat.lt_or_ge a.block w.heap.size with hl|hl
 .exact hl
 rw[fF hl] at h;cases h
def eJ{w:ak}{r:Nat}{o:Obj}(h:w.heap[r]?=some o):r<w.heap.size:=(ah.1 h).1
def DT{p:aL}{w:ak}{at_:cJ}{u:aZ}{k:cJ}{b:Bool}{x}(h:w.seen p at_ u k b=.ok x):at_.block<w.heap.size:=by
 unfold World.seen at h;rcases Nat.lt_or_ge at_.block w.heap.size with hl|hl
 .exact hl
 simp only[fF hl,Bind.bind,Except.bind,eQ,Except.pure,throw,throwThe,MonadExceptOf.throw] at h
 repeat' (first|(split at h)|(cases h;done))
def LX{p:aL}{w:ak}{a:cJ}{b:Bool}{v:aj}{l:List cJ}(h:w.farLoad p a b=.ok (v,l)):∀x∈l,x.block<w.heap.size:=by
 unfold World.farLoad at h;split at h
 .rename_i at_ u _;unfold World.viewLoad at h;generalize hs:w.seen p at_ u a b=s at h;cases s with
  |error e=>simp only[Bind.bind,Except.bind] at h;cases h
  |ok s=>
   have hb:=DT hs;obtain⟨c,e,fz,first,like,cells⟩:=s;simp only[Bind.bind,Except.bind,eQ,Except.pure] at h;generalize like.ofBytes _=o at h;cases o with
   |none=>cases h
   |some v'=>
    simp only at h;cases h;intro x hx;obtain⟨y,_,rfl⟩:=dm.1 hx;exact hb
 cases h
def JJ{p:aL}{w w':ak}{a:cJ}{v:aj}{b:Bool}{l:List cJ}(h:w.farStore p a v b=.ok (w',l)) :
  (∀x∈l,x.block<w.heap.size)/\w'.heap.size=w.heap.size/\w'.tape=w.tape/\w'.drawn=w.drawn/\(dv w->dv w'):=by
 unfold World.farStore at h;split at h
 .rename_i at_ u _;unfold World.viewStore at h;generalize hs:w.seen p at_ u a b=s at h;cases s with
  |error e=>by_cases ht:tight p p.depth u<;>simp only[ht] at h<;>cases h
  |ok s=>
   have hb:=DT hs;obtain⟨c,e,fz,first,like,cells⟩:=s
   by_cases ht:tight p p.depth u
   .simp only[ht,Bind.bind,Except.bind,eQ,Except.pure] at h;simp only[Bool.not_true,bE,if_false] at h;cases hv:v.bytes? with
    |none=>rw[hv] at h;cases h
    |some bytes=>
     rw[hv] at h;simp only[] at h;split at h
     all_goals
      rename_i r hr;split at hr
      .cases hr<;>cases h
      generalize (List.foldlM _ c cells:Except String (Array aj))=r' at hr;cases r'<;>cases hr<;>cases h<;>refine⟨fun x hx=>?_,sN,rfl,rfl,fun hk b o ho=>?_⟩
      all_goals first
       |(obtain⟨y,_,rfl⟩:=dm.1 hx;exact hb)
       |(by_cases e1:at_.block=b
         .subst e1;simp only[bg hb,gP] at ho;subst ho;exact .inl rfl
         simp only[aB e1] at ho
         exact hk _ _ ho)
   simp only[ht] at h;cases h
 cases h
class uK where
 κ:Nat->Option Obj
structure jo[K:uK](lw w:ak):Prop where
 size:lw.heap.size=w.heap.size
 os:lw.os=w.os
 out:lw.output=w.output
 at_:∀b:Nat,lw.heap[b]?=w.heap[b]?\/(lw.heap[b]?=some (.coro none)/\∃o,w.heap[b]?=some o/\fU o=false)
 old:∀b x,K.κ b=some x->b<lw.heap.size
 kept:∀b x,K.κ b=some x->lw.heap[b]?=some (.coro none)->w.heap[b]?=some x
def jZ{o:Obj}(h:fU o=false):(∀c t f,o≠.cells c t f)/\(∀c t,o≠.pending c t)/\(∀a t,o≠.view a t)/\o.isChan=false:=by
 cases o<;>simp_all [fU,Obj.isChan]
section
variable[uK]{lw w:ak}(V:jo lw w)
include V
theorem sG(I d):jo lw (dn w I d):=⟨V.size,V.os,V.out,V.at_,V.old,V.kept⟩
theorem vY(a:cJ):w.cell? a=lw.cell? a:=by
 unfold World.cell?;rcases V.at_ a.block with h|⟨h1,o,h2,h3⟩
 .rw[h]
 have:=(jZ h3).1;rw[h1,h2];cases o<;>simp_all
theorem M9(r:Nat):w.shape? r=lw.shape? r:=by
 unfold World.shape?;rcases V.at_ r with h|⟨h1,o,h2,h3⟩
 .rw[h]
 have:=(jZ h3).1;rw[h1,h2];cases o<;>simp_all
theorem ve(a:cJ):w.frozen? a=lw.frozen? a:=by
 unfold World.frozen?;rcases V.at_ a.block with h|⟨h1,o,h2,h3⟩
 .rw[h]
 have:=(jZ h3).1;rw[h1,h2];cases o<;>simp_all
theorem Hb(p:aL)(x u k b):w.seen p x u k b=lw.seen p x u k b:=by
 unfold World.seen;rcases V.at_ x.block with h|⟨h1,o,h2,h3⟩
 .rw[h]
 have:=(jZ h3).1;rw[h1,h2];cases o<;>first|rfl|(exact absurd rfl (this _ _ _))
theorem Ql(p:aL)(a b):w.farLoad p a b=lw.farLoad p a b:=by
 unfold World.farLoad World.noCell World.viewLoad;simp only[Hb V];rcases V.at_ a.block with h|⟨h1,o,h2,h3⟩
 .rw[h]
 obtain⟨h4,h5,h6,_⟩:=jZ h3;rw[h1,h2];cases o<;>first|rfl|(exact absurd rfl (h5 _ _))|(exact absurd rfl (h6 _ _))
theorem S6(o:Obj):jo { lw with heap:=lw.heap.push o } { w with heap:=w.heap.push o }:=by
 refine⟨by simp[V.size],V.os,V.out,fun b=>?_,fun b x h=>by have:=V.old b x h;simp;omega,fun b x h=>?_⟩
 .simp only[lD,V.size];split
  .exact .inl rfl
  exact V.at_ b
 have h1:=V.old b x h;have h2:=V.size;simp only[lD];rw[if_neg oN,if_neg oN];exact V.kept b x h
theorem yQ(r:Nat)(o:Obj)(hk:fU o=true):jo { lw with heap:=lw.heap.setIfInBounds r o } { w with heap:=w.heap.setIfInBounds r o }:=by
 refine⟨by simp[V.size],V.os,V.out,fun b=>?_,fun b x h=>by simpa using V.old b x h,fun b x h=>?_⟩
 .by_cases e:r=b
  .subst e;left;simp only[bA,if_true,V.size]
  simp only[aB e];exact V.at_ b
 by_cases e:r=b
 .subst e;have h1:=V.old r x h;simp only[bA,if_true];rw[if_pos h1];intro h2;cases h2;cases hk
 simp only[aB e];exact V.kept b x h
theorem BI(r:Nat)(f:Obj->Obj)(hf:∀o,(∀c t z,o≠.cells c t z)->f o=o)(hf2:∀o,f o=.coro none->o=.coro none):jo { lw with heap:=lw.heap.modify r f } { w with heap:=w.heap.modify r f }:=by
 refine⟨by simp[V.size],V.os,V.out,fun b=>?_,fun b x h=>by simpa using V.old b x h,fun b x h=>?_⟩
 .simp only[pz];split
  .rename_i e;subst e;rcases V.at_ r with h|⟨h1,o,h2,h3⟩
   .rw[h];exact .inl rfl
   right;refine⟨by rw[h1];simp only[dJ];rw[hf];intro c t z;exact nofun,o,by rw[h2];simp only[dJ];rw[hf _ (jZ h3).1],h3⟩
  exact V.at_ b
 simp only[pz];split
 .rename_i e;subst e;intro h1;obtain⟨o,h2,h3⟩:=eH.1 h1;obtain rfl:=hf2 o h3;have h4:=V.kept r x h h2;rcases V.at_ r with h5|⟨_,o,h5,h6⟩
  .rw[h2,h4] at h5;cases h5;rw[h4];simp only[dJ];rw[h3]
  rw[h4] at h5;cases h5;rw[h4];simp only[dJ];rw[hf _ (jZ h6).1]
 exact V.kept b x h
theorem Kt(a:cJ)(n:Nat):jo (lw.freeze a n) (w.freeze a n):=by
 unfold World.freeze;split
 .exact V
 exact BI V _ _ (fun o h=>by cases o<;>first|rfl|exact absurd rfl (h _ _ _)) fun o h=>by cases o<;>first|exact h|cases h
theorem IB(a:cJ)(v:aj):jo (lw.setCell a v) (w.setCell a v):=by
 unfold ku;exact BI V _ _ (fun o h=>by cases o<;>first|rfl|exact absurd rfl (h _ _ _)) fun o h=>by cases o<;>first|exact h|cases h
end
def N2{w:ak}(h:dv w){o:Obj}(ho:fU o=true):dv { w with heap:=w.heap.push o }:=fun b x hx=>by
 simp only[lD] at hx;split at hx
 .cases hx;exact .inl ho
 exact h b x hx
def yf{w:ak}(h:dv w){r:Nat}{o:Obj}(ho:fU o=true):dv { w with heap:=w.heap.setIfInBounds r o }:=fun b x hx=>by
 by_cases e:r=b
 .subst e;simp only[bA,if_true] at hx;split at hx
  .cases hx;exact .inl ho
  cases hx
 simp only[aB e] at hx;exact h b x hx
def xq{w:ak}(h:dv w){r:Nat}{f:Obj->Obj}(hf:∀o,fU o=true->fU (f o)=true)(hk:f (.coro none)=.coro none):dv { w with heap:=w.heap.modify r f }:=fun b x hx=>by
 simp only[pz] at hx;split at hx
 .rename_i e;subst e;obtain⟨y,hy,rfl⟩:=eH.1 hx;rcases h _ _ hy with h'|rfl
  .exact .inl (hf _ h')
  exact .inr hk
 exact h b x hx
def Gq{w:ak}(h:dv w)(a:cJ)(n:Nat):dv (w.freeze a n):=by
 unfold World.freeze;split
 .exact h
 exact xq h (fun o ho=>by cases o<;>first|exact ho|rfl) rfl
def EN{w:ak}(h:dv w)(a:cJ)(v:aj):dv (w.setCell a v):=by
 unfold ku;exact xq h (fun o ho=>by cases o<;>first|exact ho|rfl) rfl
def AL{α:Type}:Except Halt α->ak->Result α
 |.ok a,w=>.ok a w
 |.error h,w=>.halt h w
def OkR{α:Type}(Q:α->Prop):Except Halt α->Prop
 |.ok a=>Q a
 |.error h=>h≠.blocked/\h≠.waiting
structure P9[uK](P:aL){α:Type}(Q:α->Prop)(s:iN α)(lw w ey w':ak)(k:Nat)(r:Except Halt α)(new:Array gq):Prop where
 tape:ey.tape=lw.tape
 drawn:ey.drawn=lw.drawn+k
 grows:lw.heap.size<=ey.heap.size
 ok:dv ey
 evs:∀e∈new,Bu ey.heap.size e
 tN:jo ey w'
 res:OkR Q r
 lone:∀es,s.runT P lw es=(AL r ey,es++new)
 many:∀I d,Agree k lw.tape lw.drawn I d->∀es,s.runT P (dn w I d) es=(AL r (dn w' I (d+k)),es++new)
def Yi(P:aL){α:Type}(s:iN α)(lw:ak):Prop:=∃why ey,∀es,∃es',s.runT P lw es=(.halt (.stuck why) ey,es')
def Kw{c:Sys}(h:J9 c)(w:ak):∃r,(Kernel.perform c w.os=.done (r,w.os))/\w.sys c=(r,w):=by
 obtain⟨r,h1,h2⟩:=h w.os;refine⟨r,h1,?_⟩;unfold World.sys;rw[h1];cases r<;>first|rfl|exact absurd rfl h2
section
variable{P:aL}{α:Type}{Q:α->Prop}
theorem OI{k:Nat}{I I':Nat->dH->Nat}{d d':Nat}(h:Agree (k+1) I d I' d'):Agree k I (d+1) I' (d'+1):=fun i hi=>by
 have:=h (i+1) oN;rwa [show d+(i+1)=d+1+i by omega,show d'+(i+1)=d'+1+i by omega] at this
theorem P9.cons[uK]{s t:iN α}{lw w nE w₁ ey w':ak}{k:Nat}{r:Except Halt α}{new:Array gq}(pre:Array gq)
  (h:P9 P Q t nE w₁ ey w' k r new) (ht:nE.tape=lw.tape) (hd:nE.drawn=lw.drawn) (hs:lw.heap.size<=nE.heap.size) (he:∀e∈pre,Bu nE.heap.size e)
  (hl:∀es,s.runT P lw es=t.runT P nE (es++pre)) (hm:∀I d es,s.runT P (dn w I d) es=t.runT P (dn w₁ I d) (es++pre)) :
  P9 P Q s lw w ey w' k r (pre++new) where
 tape:=h.tape.trans ht
 drawn:=by rw[h.drawn,hd]
 grows:=aG hs h.grows
 ok:=h.ok
 evs e hx:=by
  rcases GZ.1 hx with hx|hx
  .exact(he e hx).mono h.grows
  exact h.evs e hx
 tN:=h.tN
 res:=h.res
 lone es:=by rw[hl,h.lone,Array.append_assoc]
 many I d ha es:=by rw[hm,h.many I d (by rwa [ht,hd]),Array.append_assoc]
theorem Yi.cons{s t:iN α}{lw nE:ak}(pre:Array gq)(h:Yi P t nE)(hl:∀es,s.runT P lw es=t.runT P nE (es++pre)):Yi P s lw:=by
 obtain⟨why,ey,h⟩:=h;exact⟨why,ey,fun es=>by rw[hl];exact h _⟩
theorem P9.halted[uK]{lw w:ak}{h:Halt}{s:iN α}(cV:dv lw)(V:jo lw w)(hh:h≠.blocked/\h≠.waiting)
  (hl:∀es,s.runT P lw es=(.halt h lw,es)) (hm:∀I d es,s.runT P (dn w I d) es=(.halt h (dn w I d),es)):P9 P Q s lw w lw w 0 (.error h) #[] where
 tape:=rfl
 drawn:=rfl
 grows:=aJ _
 ok:=cV
 evs:=by simp
 tN:=V
 res:=hh
 lone es:=by rw[hl];simp only[dZ];rfl
 many I d _ es:=by rw[hm];simp only[dZ];rfl
end
section
variable{P:aL}{α:Type}{Q:α->Prop}
theorem ua{B:Nat}{e:gq}(h:Bu B e):∀x∈#[e],Bu B x:=fun x hx=>by
 have:x=e:=by simpa using hx
 rw[this];exact h
theorem H9{B:Nat}{l:List cJ}{wr s:Bool}(h:∀x∈l,x.block<B):∀e∈(l.toArray.map (fun a=>(⟨.cell a,wr,s⟩:gq))),Bu B e:=fun e he=>by
 obtain⟨a,ha,rfl⟩:=Array.mem_map.1 he;exact .inl ⟨a,rfl,h a (by simpa using ha)⟩
theorem lK(m:Mode)(a:cJ)(v:aj)(k:iN α)(h1:∀x,v≠.agg x)(h2:∀x,v≠.tuple x)(w:ak)(es:Array gq):(Sem.store m a v k).runT P w es =
  match w.cell? a with
  |some _=>
   if w.frozen? a then(.halt (.unsupported (.unsafePointer "a write to bytes that a string shares")) w,es)
   else k.runT P (w.setCell a v) (es.push ⟨.cell a,true,m == .atomic⟩)
  |none=>match w.farStore P a v (m == .atomic) with
   |.ok (w,tP)=>k.runT P w (es++tP.toArray.map (⟨.cell ·,true,m == .atomic⟩))
   |.error h=>(.halt h w,es):=by
 cases v<;>first|rfl|exact absurd rfl (h1 _)|exact absurd rfl (h2 _)
theorem Et{s:String}:Halt.stuck s≠.blocked/\Halt.stuck s≠.waiting:=by constructor<;>simp
theorem Jd{u:Unsupported}:Halt.unsupported u≠.blocked/\Halt.unsupported u≠.waiting:=by constructor<;>simp
def Twin(x:Nat)(W W':ak)(r r':Except String (ak × List cJ)):Prop:=
 ∃r0:Except String (Obj × List cJ),r=(r0.map fun y=>({ W with heap:=W.heap.setIfInBounds x y.1 },y.2))/\r'=(r0.map fun y=>({ W' with heap:=W'.heap.setIfInBounds x y.1 },y.2))/\∀y,r0=.ok y->fU y.1=true
theorem Dw(p:aL)(x:cJ)(u:aZ)(k:cJ)(v:aj)(b:Bool)(W W':ak)(h:W'.seen p x u k b=W.seen p x u k b) :
  Twin x.block W W' (W.viewStore p x u k v b) (W'.viewStore p x u k v b):=by
 unfold World.viewStore;rw[h];generalize W.seen p x u k b=s
 by_cases ht:tight p p.depth u=true
 .simp only[ht,Bool.not_true,bE,if_false];cases s with
  |error e=>exact⟨.error e,rfl,rfl,fun _ h=>by cases h⟩
  |ok s=>
   obtain⟨c,e,fz,first,like,cells⟩:=s;cases hv:v.bytes? with
   |none=>exact⟨.error _,rfl,rfl,fun _ h=>by cases h⟩
   |some bytes=>
    by_cases hl:some bytes.length≠like.bytes?.map (·.length)
    .simp only[Bind.bind,Except.bind,eQ,Except.pure];rw[if_pos hl,if_pos hl];exact⟨.error _,rfl,rfl,fun _ h=>by cases h⟩
    .simp only[Bind.bind,Except.bind,eQ,Except.pure];rw[if_neg hl,if_neg hl];generalize (List.foldlM _ c cells:Except String (Array aj))=r;cases r with
     |error e=>exact⟨.error e,rfl,rfl,fun _ h=>by cases h⟩
     |ok c'=>exact⟨.ok (.cells c' e fz,_),rfl,rfl,fun _ h=>by cases h;rfl⟩
 simp only[ht];exact⟨.error _,rfl,rfl,fun _ h=>by cases h⟩
theorem Gu[uK]{lw w:ak}(V:jo lw w)(p:aL)(a:cJ)(v:aj)(b:Bool) :
  (∀e,lw.farStore p a v b=.error e->w.farStore p a v b=.error e)/\(∀ey l,lw.farStore p a v b=.ok (ey,l)->∃w',w.farStore p a v b=.ok (w',l)/\jo ey w'):=by
 unfold World.farStore World.noCell;rcases V.at_ a.block with h|⟨h1,o,h2,h3⟩
 .rw[h];split
  .rename_i at_ u _;obtain⟨r,hr1,hr2,hr3⟩:=Dw p at_ u a v b lw w (Hb V ..);rw[hr1,hr2];cases r with
   |error e=>exact⟨fun _ h=>h,fun _ _ h=>by cases h⟩
   |ok y=>exact⟨fun _ h=>by(cases h),fun ey l hl=>by cases hl;exact⟨_,rfl,yQ V _ _ (hr3 _ rfl)⟩⟩
  exact⟨fun e he=>he,fun ey l hl=>by cases hl⟩
 obtain⟨h4,h5,h6,_⟩:=jZ h3;rw[h1,h2];refine⟨fun e he=>?_,fun ey l hl=>by cases hl⟩;simp only at he;cases o<;>first|exact he|(exact absurd rfl (h5 _ _))|(exact absurd rfl (h6 _ _))
theorem LW{w:ak}{p:aL}{a:cJ}{what:String}:w.noCell a what≠.blocked/\w.noCell a what≠.waiting:=by
 unfold World.noCell;split<;>first|exact Et|exact Jd
theorem LY{w:ak}{p:aL}{a:cJ}{b:Bool}{e:Halt}(h:w.farLoad p a b=.error e):e≠.blocked/\e≠.waiting:=by
 unfold World.farLoad at h;split at h
 .split at h
  .cases h
  cases h;exact Jd
 cases h;exact LW (p:=p)
theorem JK{w:ak}{p:aL}{a:cJ}{v:aj}{b:Bool}{e:Halt}(h:w.farStore p a v b=.error e):e≠.blocked/\e≠.waiting:=by
 unfold World.farStore at h;split at h
 .split at h
  .cases h
  cases h;exact Jd
 cases h;exact LW (p:=p)
theorem wJ[uK]{s:iN α}(hs:Calm P Q s){lw w:ak}(cV:dv lw)(V:jo lw w):Yi P s lw\/∃ey w' k r new,P9 P Q s lw w ey w' k r new:=by
 induction s generalizing lw w with
 |pure a=>exact .inr ⟨lw,w,0,.ok a,#[],rfl,rfl,aJ _,cV,sN,V,hs,fun es=>by simp only[dZ];rfl,fun I d _ es=>by simp only[dZ];rfl⟩
 |load m a k ih=>
  cases hc:lw.cell? a with
  |some v=>
   have hw:w.cell? a=some v:=(vY V a).trans hc;have hl:∀es,(Sem.load m a k).runT P lw es=(k v).runT P lw (es++#[⟨.cell a,false,m == .atomic⟩]):=fun es=>by rw[dx,hc];simp
   rcases ih v (hs v) cV V with h|⟨ey,w',n,r,new,h⟩
   .exact .inl (h.cons _ hl)
   exact .inr ⟨_,_,_,_,_,h.cons _ rfl rfl (aJ _) (ua (.inl ⟨a,rfl,PZ hc⟩)) hl fun I d es=>by rw[dx,qK,hw];simp⟩
  |none=>
   have hw:w.cell? a=none:=(vY V a).trans hc;have hf:=Ql V P a (m == .atomic);cases hx:lw.farLoad P a (m == .atomic) with
   |ok x=>
    obtain⟨v,l⟩:=x;rw[hx] at hf;have hl:∀es,(Sem.load m a k).runT P lw es=(k v).runT P lw (es++l.toArray.map (⟨.cell ·,false,m == .atomic⟩)):=fun es=>by rw[dx,hc];simp only[hx]
    rcases ih v (hs v) cV V with h|⟨ey,w',n,r,new,h⟩
    .exact .inl (h.cons _ hl)
    exact .inr ⟨_,_,_,_,_,h.cons _ rfl rfl (aJ _) (H9 (LX hx)) hl fun I d es=>by rw[dx,qK,hw];simp only[Cp,hf]⟩
   |error e=>
    rw[hx] at hf;exact .inr ⟨_,_,_,_,_,P9.halted cV V (LY hx) (fun es=>by rw[dx,hc];simp only[hx]) fun I d es=>by rw[dx,qK,hw];simp only[Cp,hf]⟩
 |store m a v k ih=>
  by_cases h1:∃x,v=.agg x
  .obtain⟨x,rfl⟩:=h1;exact .inr ⟨_,_,_,_,_,P9.halted cV V Et (fun es=>by rw[dx]) fun I d es=>by rw[dx]⟩
  by_cases h2:∃x,v=.tuple x
  .obtain⟨x,rfl⟩:=h2;exact .inr ⟨_,_,_,_,_,P9.halted cV V Et (fun es=>by rw[dx]) fun I d es=>by rw[dx]⟩
  have h1':∀x,v≠.agg x:=fun x e=>h1 ⟨x,e⟩;have h2':∀x,v≠.tuple x:=fun x e=>h2 ⟨x,e⟩;cases hc:lw.cell? a with
  |some v0=>
   have hw:w.cell? a=some v0:=(vY V a).trans hc
   by_cases hz:lw.frozen? a=true
   .have hz':w.frozen? a=true:=(ve V a).trans hz
    exact .inr ⟨_,_,_,_,_,P9.halted (h:=.unsupported (.unsafePointer "a write to bytes that a string shares")) cV V Jd (fun es=>by rw[lK _ _ _ _ h1' h2',hc];simp only[hz,if_true]) fun I d es=>by
     rw[lK _ _ _ _ h1' h2',qK,hw];simp only[yh,hz',if_true]⟩
   have hz1:lw.frozen? a=false:=by simpa using hz
   have hz':w.frozen? a=false:=(ve V a).trans hz1
   have hl:∀es,(Sem.store m a v k).runT P lw es=k.runT P (lw.setCell a v) (es++#[⟨.cell a,true,m == .atomic⟩]):=fun es=>by
    rw[lK _ _ _ _ h1' h2',hc];simp[hz1]
   have hsz:(lw.setCell a v).heap.size=lw.heap.size:=by unfold ku;simp
   rcases ih hs (EN cV a v) (IB V a v) with h|⟨ey,w',n,r,new,h⟩
   .exact .inl (h.cons _ hl)
   refine .inr ⟨_,_,_,_,_,h.cons _ rfl rfl oN (ua (.inl ⟨a,rfl,by rw[hsz];exact PZ hc⟩)) hl fun I d es=>?_⟩;rw[lK _ _ _ _ h1' h2',qK,hw];simp only[yh,hz',bE,if_false,<-Array.push_eq_append];rfl
  |none=>
   have hw:w.cell? a=none:=(vY V a).trans hc;obtain⟨hf1,hf2⟩:=Gu V P a v (m == .atomic);cases hx:lw.farStore P a v (m == .atomic) with
   |ok x=>
    obtain⟨nE,l⟩:=x;obtain⟨w₁,Ua,V₁⟩:=hf2 _ _ hx;obtain⟨g1,g2,g3,g4,g5⟩:=JJ hx
    have hl:∀es,(Sem.store m a v k).runT P lw es=k.runT P nE (es++l.toArray.map (⟨.cell ·,true,m == .atomic⟩)):=fun es=>by
     rw[lK _ _ _ _ h1' h2',hc];simp only[hx]
    rcases ih hs (g5 cV) V₁ with h|⟨ey,w',n,r,new,h⟩
    .exact .inl (h.cons _ hl)
    exact .inr ⟨_,_,_,_,_,h.cons _ g3 g4 oN (H9 (fun x hx=>by rw[g2];exact g1 x hx)) hl fun I d es=>by
     rw[lK _ _ _ _ h1' h2',qK,hw];simp only[zL,Ua]
     rfl⟩
   |error e=>
    have Ua:=hf1 _ hx
    exact .inr ⟨_,_,_,_,_,P9.halted cV V (JK hx) (fun es=>by rw[lK _ _ _ _ h1' h2',hc];simp only[hx]) fun I d es=>by
     rw[lK _ _ _ _ h1' h2',qK,hw];simp only[zL,Ua]
     rfl⟩
 |new o k ih=>
  have hl:∀es,(Sem.new o k).runT P lw es=(k lw.heap.size).runT P { lw with heap:=lw.heap.push o } (es++#[]):=fun es=>by rw[dx];simp
  rcases ih lw.heap.size (hs.2 _) (N2 cV hs.1) (S6 V o) with h|⟨ey,w',n,r,new,h⟩
  .exact .inl (h.cons _ hl)
  exact .inr ⟨_,_,_,_,_,h.cons _ rfl rfl sN sN hl fun I d es=>by rw[dx];simp only[oK,<-V.size,dZ];rfl⟩
 |shape r k ih=>
  have hl:∀es,(Sem.shape r k).runT P lw es=(k (lw.shape? r)).runT P lw (es++#[]):=fun es=>by rw[dx];simp
  rcases ih (lw.shape? r) (hs _) cV V with h|⟨ey,w',n,r',new,h⟩
  .exact .inl (h.cons _ hl)
  exact .inr ⟨_,_,_,_,_,h.cons _ rfl rfl (aJ _) sN hl fun I d es=>by rw[dx];simp only[Qv,M9 V,dZ]⟩
 |freeze a n k ih=>
  have hl:∀es,(Sem.freeze a n k).runT P lw es=k.runT P (lw.freeze a n) (es++#[]):=fun es=>by rw[dx];simp
  have hz:(lw.freeze a n).heap.size=lw.heap.size/\(lw.freeze a n).tape=lw.tape/\(lw.freeze a n).drawn=lw.drawn:=by unfold World.freeze;split<;>simp
  rcases ih hs (Gq cV a n) (Kt V a n) with h|⟨ey,w',n',r',new,h⟩
  .exact .inl (h.cons _ hl)
  refine .inr ⟨_,_,_,_,_,h.cons _ hz.2.1 hz.2.2 oN sN hl fun I d es=>?_⟩;rw[dx];simp only[dZ];unfold World.freeze;split<;>rfl
 |frozen a k ih=>
  have hl:∀es,(Sem.frozen a k).runT P lw es=(k (lw.frozen? a)).runT P lw (es++#[]):=fun es=>by rw[dx];simp
  rcases ih (lw.frozen? a) (hs _) cV V with h|⟨ey,w',n,r',new,h⟩
  .exact .inl (h.cons _ hl)
  exact .inr ⟨_,_,_,_,_,h.cons _ rfl rfl (aJ _) sN hl fun I d es=>by rw[dx];simp only[yh,ve V,dZ]⟩
 |getObj r k ih=>
  cases hc:lw.heap[r]? with
  |none=>exact .inl ⟨_,lw,fun es=>⟨_,by rw[dx];simp only[hc];rfl⟩⟩
  |some o=>
   by_cases hcell:∃c t f,o=.cells c t f
   .obtain⟨c,t,f,rfl⟩:=hcell;exact .inl ⟨_,lw,fun es=>⟨_,by rw[dx];simp only[hc];rfl⟩⟩
   have uP:∀c t f,o≠.cells c t f:=fun c t f e=>hcell ⟨c,t,f,e⟩
   have hrun:∀(x:ak) (o':Obj),x.heap[r]?=some o'->(∀c t f,o'≠.cells c t f)->∀es,(Sem.getObj r k).runT P x es=(k o').runT P x (es++#[⟨.obj r,false,o'.isChan⟩]):=fun x o' hx hn es=>by
    rw[dx,hx];cases o'<;>first|exact absurd rfl (hn _ _ _)|(simp only[<-Array.push_eq_append])
   have hev:Bu lw.heap.size (⟨.obj r,false,o.isChan⟩:gq):=.inr (.inl ⟨r,rfl,eJ hc⟩);have hl:=hrun lw o hc uP;rcases V.at_ r with hv|⟨h1,o',h2,h3⟩
   .have hw:w.heap[r]?=some o:=hv.symm.trans hc
    have adU:Calm P Q (k o)\/FV (k o):=by
     rcases cV r o hc with ho|rfl
     .exact .inl (hs.1 o ho)
     exact hs.2.symm.imp (·.1) id
    rcases adU with hk|⟨why,hk⟩
    .rcases ih o hk cV V with h|⟨ey,w',n,r',new,h⟩
     .exact .inl (h.cons _ hl)
     exact .inr ⟨_,_,_,_,_,h.cons _ rfl rfl (aJ _) (ua hev) hl fun I d es=>hrun (dn w I d) o hw uP es⟩
    exact .inl ⟨why,lw,fun es=>⟨_,by rw[hl,hk];rfl⟩⟩
   obtain rfl:o=.coro none:=a7 (hc.symm.trans h1);rcases hs.2 with⟨why,hk⟩|⟨hk,hk2⟩
   .exact .inl ⟨why,lw,fun es=>⟨_,by rw[hl,hk];rfl⟩⟩
   rcases ih (.coro none) hk cV V with h|⟨ey,w',n,r',new,h⟩
   .exact .inl (h.cons _ hl)
   refine .inr ⟨_,_,_,_,_,h.cons _ rfl rfl (aJ _) (ua hev) hl fun I d es=>?_⟩;rw[hrun (dn w I d) o' h2 (jZ h3).1 es,hk2 _ h3,(jZ h3).2.2.2];rfl
 |setObj r o k ih=>
  cases hc:lw.heap[r]? with
  |none=>exact .inl ⟨_,lw,fun es=>⟨_,by rw[dx];simp only[hc];rfl⟩⟩
  |some o0=>
   by_cases hcell:∃c t f,o0=.cells c t f
   .obtain⟨c,t,f,rfl⟩:=hcell;exact .inl ⟨_,lw,fun es=>⟨_,by rw[dx];simp only[hc];rfl⟩⟩
   have uP:∀c t f,o0≠.cells c t f:=fun c t f e=>hcell ⟨c,t,f,e⟩
   have hrun:∀(x:ak) (o':Obj),x.heap[r]?=some o'->(∀c t f,o'≠.cells c t f)->∀es,(Sem.setObj r o k).runT P x es=k.runT P { x with heap:=x.heap.setIfInBounds r o } (es++#[⟨.obj r,true,o.isChan⟩]):=fun x o' hx hn es=>by
    rw[dx,hx];cases o'<;>first|exact absurd rfl (hn _ _ _)|(simp only[<-Array.push_eq_append])
   have hw:∃o',w.heap[r]?=some o'/\∀c t f,o'≠.cells c t f:=by
    rcases V.at_ r with hv|⟨h1,o',h2,h3⟩
    .exact⟨o0,hv.symm.trans hc,uP⟩
    exact⟨o',h2,(jZ h3).1⟩
   obtain⟨o',hw,hn'⟩:=hw;have hl:=hrun lw o0 hc uP;rcases ih hs.2 (yf cV hs.1) (yQ V r o hs.1) with h|⟨ey,w',n,r',new,h⟩
   .exact .inl (h.cons _ hl)
   exact .inr ⟨_,_,_,_,_,h.cons _ rfl rfl sN (ua (.inr (.inl ⟨r,rfl,by simpa using eJ hc⟩))) hl fun I d es=>hrun (dn w I d) o' hw hn' es⟩
 |choose q k ih=>
  by_cases hq:q.forced=true
  .have hl:∀es,(Sem.choose q k).runT P lw es=(k 0).runT P lw (es++#[]):=fun es=>by rw[dx];simp[hq]
   rcases ih 0 (hs 0) cV V with h|⟨ey,w',n,r,new,h⟩
   .exact .inl (h.cons _ hl)
   exact .inr ⟨_,_,_,_,_,h.cons _ rfl rfl (aJ _) sN hl fun I d es=>by rw[dx];simp[hq]⟩
  have hl:∀es,(Sem.choose q k).runT P lw es=(k (q.cut (lw.tape lw.drawn q))).runT P { lw with drawn:=lw.drawn+1 } es:=fun es=>by rw[dx];simp[hq]
  have V':jo { lw with drawn:=lw.drawn+1 } w:=⟨V.size,V.os,V.out,V.at_,V.old,V.kept⟩
  rcases ih (q.cut (lw.tape lw.drawn q)) (hs _) (lw:={ lw with drawn:=lw.drawn+1 }) cV V' with⟨why,ey,h⟩|⟨ey,w',n,r,new,h⟩
  .exact .inl ⟨why,ey,fun es=>by rw[hl];exact h es⟩
  refine .inr ⟨ey,w',n+1,r,new,h.tape,by rw[h.drawn];simp only[];omega,h.grows,h.ok,h.evs,h.tN,h.res,fun es=>by rw[hl,h.lone],fun I d ha es=>?_⟩;have h0:lw.tape lw.drawn=I d:=ha 0 oN;have:=h.many I (d+1) (OI ha) es;rw[dx];simp only[hq,bE,if_false,zk,qb,<-h0];rw[show d+(n+1)=d+1+n by omega];exact this
 |sys c k ih=>
  obtain⟨x,hx1,hx2⟩:=Kw hs.1 lw;have hl:∀es,(Sem.sys c k).runT P lw es=(k x).runT P lw (es++#[⟨.output,true,false⟩]):=fun es=>by rw[dx,hx2];simp
  have hm:∀I d es,(Sem.sys c k).runT P (dn w I d) es=(k x).runT P (dn w I d) (es++#[⟨.output,true,false⟩]):=fun I d es=>by
   obtain⟨y,hy1,hy2⟩:=Kw hs.1 (dn w I d)
   have:y=x:=by
    simp only[ZG,<-V.os] at hy1;rw[hx1] at hy1;cases hy1;rfl
   subst this;rw[dx,hy2];simp
  rcases ih x (hs.2 x) cV V with h|⟨ey,w',n,r,new,h⟩
  .exact .inl (h.cons _ hl)
  exact .inr ⟨_,_,_,_,_,h.cons _ rfl rfl (aJ _) (ua (.inr (.inr (.inl rfl)))) hl hm⟩
 |program k ih=>
  have hl:∀es,(Sem.program k).runT P lw es=(k P).runT P lw (es++#[]):=fun es=>by rw[dx];simp
  rcases ih P hs cV V with h|⟨ey,w',n,r,new,h⟩
  .exact .inl (h.cons _ hl)
  exact .inr ⟨_,_,_,_,_,h.cons _ rfl rfl (aJ _) sN hl fun I d es=>by rw[dx];simp⟩
 |mark m k ih=>
  have hl:∀(x:ak) es,(Sem.mark m k).runT P x es=k.runT P x (es++#[⟨.mark m,false,true⟩]):=fun x es=>by rw[dx];simp
  rcases ih hs.2 cV V with h|⟨ey,w',n,r,new,h⟩
  .exact .inl (h.cons _ (hl lw))
  refine .inr ⟨_,_,_,_,_,h.cons _ rfl rfl (aJ _) (ua ?_) (hl lw) fun I d es=>hl _ es⟩;rcases hs.1 with rfl|⟨f,rfl⟩
  .exact .inr (.inr (.inr (.inl rfl)))
  exact .inr (.inr (.inr (.inr ⟨f,rfl⟩)))
 |halt h=>exact .inr ⟨_,_,_,_,_,P9.halted cV V hs (fun es=>by rw[dx]) fun I d es=>by rw[dx]⟩
end
def iQ:Item->Bool
 |.code c=>dX c
 |.inLoop c|.inScope c=>dX c
 |.inRegion aM _=>aM.all AH
 |.inBlock _|.inRangeFunc _|.endRangeFunc _|.beginRound=>true
 |.call ..|.extern ..=>false
structure dw(fr:bT):Prop where
 todo:fr.todo.all iQ=true
 defers:fr.defers.all pE=true
structure Ap(g:aC):Prop where
 frame:dw g.frame
 callers:∀c∈g.callers,dw c
 status:g.status=.running\/g.status=.finished
structure Quiet(P:aL):Prop extends Vq P where
 ahead:P.follows .staticDataAhead=true
 steps:∀g,P.stepOf g=none
 enters:∀todo,NoEnter P todo
structure Base[uK](lw ey w':ak)(k:Nat)(es:Array gq):Prop where
 tape:ey.tape=lw.tape
 drawn:ey.drawn=lw.drawn+k
 grows:lw.heap.size<=ey.heap.size
 ok:dv ey
 evs:∀e∈es,Bu ey.heap.size e
 tN:jo ey w'
def Io[uK](P:aL)(lw:ak)(s:GStep)(f:(Nat->dH->Nat)->Nat->GStep):Prop:=
 match s with
 |.ended ..=>True
 |.spawn ..=>True
 |.go g' ey es=>g'.dyingOn P\/(Ap g'/\g'.dying=none/\∃w' k,Base lw ey w' k es/\∀I d,Agree k lw.tape lw.drawn I d->f I d=.go g' (dn w' I (d+k)) es)
 |.comm g' cs b sh ey es=>Ap g'/\(g'.dying=none/\g'.status=.running)/\∃w' k,Base lw ey w' k es/\∀I d,Agree k lw.tape lw.drawn I d->f I d=.comm g' cs b sh (dn w' I (d+k)) es
 |_=>False
section frames
variable{fr:bT}
theorem dw.finish(h:dw fr)(v:aj):dw (fr.finish v):=by
 obtain⟨ht,hd⟩:=h;unfold Frame.finish;split
 .rename_i e;rw[e] at ht;simp only[dP,aF] at ht;refine⟨?_,hd⟩;simp only[dP,aF];exact ht
 .rename_i e;rw[e] at ht;simp only[dP,aF] at ht;refine⟨?_,hd⟩;simp only[dP,aF];exact ht
 .rename_i e;rw[e] at ht;simp only[dP,aF] at ht;exact⟨ht.2,hd⟩
 .rename_i e;rw[e] at ht;simp only[dP,aF] at ht;exact absurd ht.1 (by simp[iQ])
 .rename_i e;rw[e] at ht;simp only[dP,aF] at ht;exact absurd ht.1 (by simp[iQ])
 exact⟨ht,hd⟩
theorem dw.raise(h:dw fr)(c:List PanicEntry):dw (fr.raise c):=by
 unfold Frame.raise;split<;>exact⟨h.todo,h.defers⟩
theorem dw.mode(h:dw fr)(m:FrameMode):dw { fr with mode:=m }:=⟨h.todo,h.defers⟩
theorem oA{P:aL}(T:Quiet P)(f:dU)(args:Array aj)(kind:CallKind):dw (eo P f args kind):=by
 refine⟨?_,rfl⟩;unfold eo;simp only[dP,List.all_nil,Bool.and_true,iQ];cases hf:P.funcs[f]? with
 |none=>rfl
 |some fn=>
  cases hb:fn.body with
  |none=>simp[hb,dX]
  |some c=>simpa [hb] using T.body f fn c hf hb
theorem xA{l:Nat}{f:dU}{tmps:Array aj}{a b:Code}(ha:dX a=true)(hb:dX b=true)(kind:CallKind):dw (Frame.round l f tmps a b kind):=by
 refine⟨?_,rfl⟩;simp[Frame.round,iQ,ha,hb]
theorem A5{id:Nat}:∀ {k k':List Item},k.all iQ=true->exitTo id k=some k'->k'.all iQ=true
 |[],k',_,h=>by cases h
 |x::k,k',hk,h=>by
  simp only[dP,aF] at hk;unfold exitTo at h;split at h
  .rename_i e;cases e;split at h
   .cases h;exact hk.2
   exact A5 hk.2 h
  .rename_i e;cases e;exact A5 hk.2 h
  rename_i e;cases e
theorem t_:∀ {c:Code} {l:Nat} {c':Code},dX c=true->Aq c l=some c'->dX c'=true
 |.seq a b,l,c',hc,h=>by
  simp only[dX,aF] at hc;unfold Aq at h;split at h
  .rename_i rest hr;cases h;simp only[dX,aF];exact⟨t_ hc.1 hr,hc.2⟩
  exact t_ hc.2 h
 |.label l',l,c',hc,h=>by
  unfold Aq at h;split at h
  .cases h;rfl
  cases h
 |.region ..,l,c',hc,h=>by unfold Aq at h;cases h
 |.cond ..,l,c',hc,h=>by unfold Aq at h;cases h
 |.block ..,l,c',hc,h=>by unfold Aq at h;cases h
 |.loop ..,l,c',hc,h=>by unfold Aq at h;cases h
 |.rangeFunc ..,l,c',hc,h=>by unfold Aq at h;cases h
 |.scope ..,l,c',hc,h=>by unfold Aq at h;cases h
 |.exit ..,l,c',hc,h=>by unfold Aq at h;cases h
 |.goto ..,l,c',hc,h=>by unfold Aq at h;cases h
 |.ret,l,c',hc,h=>by unfold Aq at h;cases h
 |.skip,l,c',hc,h=>by unfold Aq at h;cases h
 |.refuse ..,l,c',hc,h=>by unfold Aq at h;cases h
theorem A1{l:Nat}:∀ {k k':List Item},k.all iQ=true->gotoIn l k=some k'->k'.all iQ=true
 |[],k',_,h=>by cases h
 |x::k,k',hk,h=>by
  have hk0:=hk;simp only[dP,aF] at hk;unfold gotoIn at h;split at h
  .rename_i body k0 e;cases e;split at h
   .rename_i rest hr;cases h;simp only[dP,aF];exact⟨t_ hk.1 hr,hk⟩
   exact A1 hk.2 h
  .rename_i e;cases e;exact A1 hk.2 h
  rename_i e;cases e
theorem mH:∀ {cs:List bT} {fr:bT} {v:aj} {cs':List bT},(∀c∈cs,dw c)->tryRecover fr cs=some (v,cs')->∀c∈cs',dw c
 |[],fr,v,cs',h,e=>by
  unfold tryRecover at e;split at e
  .rename_i h1;cases h1
  .rename_i h1;cases h1
  cases e
 |c0::rest,fr,v,cs',h,e=>by
  unfold tryRecover at e;split at e
  .rename_i h1;cases h1;split at e
   .cases e;intro c hc;rcases cy.1 hc with rfl|hc
    .exact(h c0 (dr ..)).mode _
    exact h c (bY _ hc)
   cases e
  .rename_i h1;cases h1;obtain⟨⟨v',r'⟩,hr,he⟩:=eH.1 e;cases he;intro c hc;rcases cy.1 hc with rfl|hc
   .exact h c (dr ..)
   exact mH (fun c hc=>h c (bY _ hc)) hr c hc
  cases e
theorem lr:∀ {cs:List bT} {l:Nat} {v:aj} {cs':List bT},(∀c∈cs,dw c)->tryRecoverLoop l cs=some (v,cs')->∀c∈cs',dw c
 |[],l,v,cs',h,e=>by cases e
 |c0::rest,l,v,cs',h,e=>by
  unfold tryRecoverLoop at e;obtain⟨⟨v',r'⟩,hr,he⟩:=eH.1 e;cases he;have zD:∀c∈rest,dw c:=fun c hc=>h c (bY _ hc);intro c hc;rcases cy.1 hc with rfl|hc
  .exact h c (dr ..)
  split at hr
  .exact lr zD hr c hc
  .split at hr
   .exact mH zD hr c hc
   exact lr zD hr c hc
  exact lr zD hr c hc
end frames
def mem_seen{p:aL}{fn:dU}{es:Array gq}{e:gq}(h:e∈seen p fn es):e∈es:=by
 unfold seen at h;revert h
 have:∀(l:List gq) (acc:Bool × Array gq),e∈(l.foldl (fun(x:Bool × Array gq) (e:gq)=>(match x with
   |(q,kept)=>match e.loc with
    |.mark (.extern f)=>((p.funcs[f]?).any (·.norace),kept)
    |_=>(q,if q && !e.sync then kept else kept.push e):Bool × Array gq)) acc).2->e∈acc.2\/e∈l:=by
  intro l
  induction l with
  |nil=>intro acc h;exact .inl h
  |cons x l ih=>
   intro acc h;rw[List.foldl_cons] at h;rcases ih _ h with h|h
   .obtain⟨q,kept⟩:=acc;dsimp only at h;split at h
    .exact .inl h
    dsimp only at h;split at h
    .exact .inl h
    rcases Array.mem_push.1 h with h|rfl
    .exact .inl h
    exact .inr (dr ..)
   exact .inr (bY _ h)
 intro h;dsimp only at h;rw[<-Array.foldl_toList] at h;rcases this _ _ h with h|h
 .simp at h
 simpa using h
section
variable{P:aL}{lw w:ak}
theorem Ij[uK](cV:dv lw)(V:jo lw w):Base lw lw w 0 #[]:=⟨rfl,rfl,aJ _,cV,sN,V⟩
theorem Tc[uK](cV:dv lw)(V:jo lw w){g:aC}(hg:Ap g)(hd:g.dying=none){f}(hf:∀I d,f I d=.go g (dn w I d) #[]):Io P lw (.go g lw #[]) f:=
 .inr ⟨hg,hd,w,0,Ij cV V,fun I d _=>hf I d⟩
theorem P9.base[uK]{α:Type}{Q:α->Prop}{s:iN α}{ey w':ak}{k:Nat}{r:Except Halt α}{new:Array gq}(h:P9 P Q s lw w ey w' k r new){es:Array gq}(hes:∀e∈es,e∈new):Base lw ey w' k es:=
 ⟨h.tape,h.drawn,h.grows,h.ok,fun e he=>h.evs e (hes e he),h.tN⟩
def lz(P:aL){α:Type}(K:Result α × Array gq->GStep)(r:Except Halt α):Prop:=∀x new,(∃o y es',K (AL r x,new)=.ended o y es')\/(∃g y es',K (AL r x,new)=.go g y es'/\g.dyingOn P)\/(∃g c y es',K (AL r x,new)=.spawn g c y es')\/
   (∃g es',Ap g/\g.dying=none/\(∀e∈es',e∈new)/\∀y,K (AL r y,new)=.go g y es')\/
   (∃g cs b sh es',Ap g/\(g.dying=none/\g.status=.running)/\(∀e∈es',e∈new)/\∀y,K (AL r y,new)=.comm g cs b sh y es')
theorem lz.ended{α:Type}{K:Result α × Array gq->GStep}{r:Except Halt α}(h:∀x new,∃o y es',K (AL r x,new)=.ended o y es'):lz P K r:=fun x new=>.inl (h x new)
theorem lz.Fa{α:Type}{K:Result α × Array gq->GStep}{r:Except Halt α}(h:∀x new,∃g y es',K (AL r x,new)=.go g y es'/\g.dyingOn P):lz P K r:=fun x new=>.inr (.inl (h x new))
theorem lz.go{α:Type}{K:Result α × Array gq->GStep}{r:Except Halt α}{g:aC}(hg:Ap g)(hd:g.dying=none)(es':Array gq->Array gq)(hes:∀new e,e∈es' new->e∈new)(h:∀y new,K (AL r y,new)=.go g y (es' new)):lz P K r:=
 fun x new=>.inr (.inr (.inr (.inl ⟨g,es' new,hg,hd,hes new,fun y=>h y new⟩)))
theorem yT[uK]{α:Type}{Q:α->Prop}{s:iN α}(hs:Calm P Q s)(cV:dv lw)(V:jo lw w)(F:ak->GStep)
  (h:∃K:Result α × Array gq->GStep,(∀y,F y=K (s.runT P y #[]))/\(∀why x es,∃o es',K (.halt (.stuck why) x,es)=.ended o x es')/\∀r,OkR Q r->lz P K r) :
  Io P lw (F lw) (fun I d=>F (dn w I d)):=by
 obtain⟨K,hrun,PN,hK⟩:=h;simp only[hrun];rcases wJ hs cV V with⟨why,ey,h⟩|⟨ey,w',k,r,new,h⟩
 .obtain⟨es,he⟩:=h #[];rw[he];obtain⟨o,es',h'⟩:=PN why ey es;rw[h'];trivial
 have hl:=h.lone #[];rw[eZ] at hl;rw[hl];have hm:∀I d,Agree k lw.tape lw.drawn I d->K (s.runT P (dn w I d) #[])=K (AL r (dn w' I (d+k)),new):=fun I d ha=>by rw[h.many I d ha #[],eZ]
 rcases hK r h.res ey new with⟨o,y,es',e⟩|⟨g,y,es',e,hd⟩|⟨g,c,y,es',e⟩|⟨g,es',hg,hd,hes,e⟩|⟨g,cs,b,sh,es',hg,hd,hes,e⟩
 .rw[e];trivial
 .rw[e];exact .inl hd
 .rw[e];trivial
 .rw[e ey];exact .inr ⟨hg,hd,w',k,h.base hes,fun I d ha=>(hm I d ha).trans (e _)⟩
 rw[e ey];exact⟨hg,hd,w',k,h.base hes,fun I d ha=>(hm I d ha).trans (e _)⟩
theorem zP(fr:bT)(ahead:List ByteArray)(m:String)(whole:Bool)(w:ak):∃g y es',dieOf fr ahead m whole w=.go g y es'/\g.dyingOn P:=⟨_,_,_,rfl,.inl rfl,_,rfl,rfl,NoEnter.nil P⟩
theorem CZ(fr:bT)(m:String)(w:ak):∃g y es',endThrow fr m w=.go g y es'/\g.dyingOn P:=zP _ _ _ _ _
theorem uC(fr:bT)(cs:List bT)(d:Option Dying)(m:String)(w:ak) :
  (∃o y es',endFatal P fr cs d m w=.ended o y es')\/∃g y es',endFatal P fr cs d m w=.go g y es'/\g.dyingOn P:=by
 unfold endFatal
 extract_lets
 repeat' (first|(split)|exact .inl ⟨_,_,_,rfl⟩|exact .inr (zP _ _ _ _ _))
theorem L_(T:Quiet P)(fr:bT)(cs:List bT)(d:Option Dying)(g:Nat)(w:ak):∃o es',early P fr cs d g w=.ended o w es':=by
 unfold early;simp only[T.ahead,T.steps,Bool.not_true,bE,if_false];exact⟨_,_,rfl⟩
theorem fq{fr:bT}{cs:List bT}{d:Option Dying}{o}(h:dw fr)(hc:∀c∈cs,dw c):Ap { frame:=fr,callers:=cs,status:=.running,dying:=d,offers:=o }:=⟨h,hc,.inl rfl⟩
theorem Dp{fr:bT}{cs:List bT}(h:dw fr)(hc:∀c∈cs,dw c):∀c∈fr::cs,dw c:=fun c hx=>by
 rcases cy.1 hx with rfl|hx
 .exact h
 exact hc c hx
theorem Gj{c:Prop}[Decidable c]{es:Array gq}{e:gq}(h:e∈(if c then #[] else es)):e∈es:=by
 split at h
 .simp at h
 exact h
theorem sS{es:Array gq}{p:aL}{fn:dU}{c:Prop}[Decidable c]{e:gq}(h:e∈seen p fn (if c then #[] else es)++#[]):e∈es:=by
 rw[dZ] at h;exact Gj (mem_seen h)
theorem mem_row{es:Array gq}{p:aL}{fn:dU}{c:Prop}[Decidable c]:∀e,e∈seen p fn (if c then #[] else es)++#[]->e∈es:=fun e=>sS
theorem wM[uK](T:Quiet P){fr:bT}{cs:List bT}(hfr:dw fr)(hcs:∀c∈cs,dw c){s:iN Next}(hs:Calm P eP s)(cV:dv lw)(V:jo lw w) :
  Io P lw (ek P true fr cs none s lw) (fun I d=>ek P true fr cs none s (dn w I d)):=by
 refine yT hs cV V (fun y=>ek P true fr cs none s y) ⟨?K,fun y=>?_,?_,?_⟩
 rotate_left
 .unfold ek;simp only[if_true];generalize s.runT P y #[]=x;exact rfl
 .intro why x es;exact⟨_,_,rfl⟩
 .intro r hr;cases r with
  |ok n=>
   cases n with
   |value v=>exact lz.go (fq (hfr.finish v) hcs) rfl _ (fun _=>mem_row) fun y new=>rfl
   |skip=>exact lz.go (fq (hfr.finish undef) hcs) rfl _ (fun _=>mem_row) fun y new=>rfl
   |enter f args=>exact lz.go (fq (oA T f args _) (Dp hfr hcs)) rfl _ (fun _=>mem_row) fun y new=>rfl
   |round l f tmps a b=>exact lz.go (fq (xA hr.1 hr.2 _) (Dp hfr hcs)) rfl _ (fun _=>mem_row) fun y new=>rfl
   |defer d=>exact lz.go (fq (dw.finish (fr:={ fr with defers:=d::fr.defers }) ⟨hfr.todo,by rw[dP,hfr.defers,Bool.and_true];exact hr⟩ undef) hcs) rfl _ (fun _=>mem_row) fun y new=>rfl
   |recover=>
    intro x new
    have key:∀X:Option (aj × List bT),(∀v cs',X=some (v,cs')->∀c∈cs',dw c)->∀es:Array gq,(∀e∈es++#[],e∈new)->
      ∃g es',Ap g/\g.dying=none/\(∀e∈es',e∈new)/\∀y,BD es (match X with
       |some (v,callers)=>GStep.go { frame:=fr.finish v,callers,status:=.running,dying:=none } y
       |none=>GStep.go { frame:=fr.finish .nilIface,callers:=cs,status:=.running,dying:=none } y)=.go g y es':=by
     intro X hX es hes;cases X with
     |none=>exact⟨_,_,fq (hfr.finish .nilIface) hcs,rfl,hes,fun y=>rfl⟩
     |some z=>exact⟨_,_,fq (hfr.finish z.1) (hX z.1 z.2 rfl),rfl,hes,fun y=>rfl⟩
    refine .inr (.inr (.inr (.inl ?_)));cases hro:fr.roundOf with
    |none=>
     simp only[AL,hro];exact key (tryRecover fr cs) (fun v cs' e=>mH hcs e) _ fun e=>sS
    |some l=>
     by_cases hf:P.follows .rangeFuncRecover=true
     .simp only[AL,hro,hf,if_true];exact key (tryRecover fr cs) (fun v cs' e=>mH hcs e) _ fun e=>sS
     simp only[AL,hro,hf,if_false];exact key (tryRecoverLoop l cs) (fun v cs' e=>lr hcs e) _ fun e=>sS
   |comm c b sh=>exact fun x new=>.inr (.inr (.inr (.inr ⟨_,_,_,_,_,fq hfr hcs,⟨rfl,rfl⟩,fun e=>sS,fun y=>rfl⟩)))
   |spawn d=>
    intro x new;dsimp only[AL];generalize (P.follows .goNilFatal&&_&&d.args.isEmpty&&fr.noResult P)=c;cases c with
    |true=>
     obtain⟨g,y,es',e,hd⟩:=CZ (P:=P) fr "go of nil func value" x;exact .inr (.inl ⟨g,y,_,by rw[if_pos rfl,e];rfl,hd⟩)
    |false=>exact .inr (.inr (.inl ⟨_,_,_,_,rfl⟩))
   |_=>exact hr.elim
  |error h=>
   cases h with
   |panic v=>exact lz.go (fq (hfr.raise _) hcs) rfl _ (fun _=>mem_row) fun y new=>rfl
   |goexit=>exact lz.go (fq (hfr.raise _) hcs) rfl _ (fun _=>mem_row) fun y new=>rfl
   |blocked=>exact absurd rfl hr.1
   |waiting=>exact absurd rfl hr.2
   |exit c=>exact lz.ended fun x new=>⟨_,_,_,rfl⟩
   |fatal m=>
    intro x new;dsimp only[AL];rcases uC (P:=P) fr cs none m x with⟨o,y,es',e⟩|⟨g,y,es',e,hd⟩
    .rw[e];exact .inl ⟨_,_,_,rfl⟩
    rw[e];exact .inr (.inl ⟨_,_,_,rfl,hd⟩)
   |throw m=>exact lz.Fa fun x new=>⟨_,_,_,rfl,.inl rfl,_,rfl,rfl,NoEnter.nil P⟩
   |unsupported u=>
    intro x new;dsimp only[AL];cases u with
    |initOrder g=>
     dsimp only;obtain⟨o,es',e⟩:=L_ T fr cs none g x;rw[e];exact .inl ⟨_,_,_,rfl⟩
    |_=>exact .inl ⟨_,_,_,rfl⟩
   |stuck s=>exact lz.ended fun x new=>⟨_,_,_,rfl⟩
end
section
variable{P:aL}{lw w:ak}
theorem xC(T:Quiet P){fr:bT}{cs:List bT}(hfr:dw fr)(hcs:∀c∈cs,dw c)(v:aj) :
  (∃g,Ap g/\g.dying=none/\∀y,uo P true fr cs none v y=.go g y #[])\/(∀y,∃o,uo P true fr cs none v y=.ended o y #[]):=by
 cases cs with
 |cons c rest=>
  have hc:=hcs c (dr ..);have zD:∀c∈rest,dw c:=fun x hx=>hcs x (bY _ hx);cases hk:fr.kind with
  |normal=>exact .inl ⟨_,fq (hc.finish v) zD,rfl,fun y=>by simp only[uo,hk];rfl⟩
  |wrapped=>exact .inl ⟨_,fq (hc.finish v) zD,rfl,fun y=>by simp only[uo,hk];rfl⟩
  |early=>exact .inl ⟨_,fq hc zD,rfl,fun y=>by simp only[uo,hk];rfl⟩
  |_=>
   refine .inl ⟨_,fq ?_ zD,rfl,fun y=>by simp only[uo,hk];rfl⟩;split
   .split<;>exact hc.mode _
   exact hc
 |nil=>
  have key:fr.kind≠.report->∀y,uo P true fr [] none v y=(match P.inits.idxOf? fr.fn with
    |some k=>.go { frame:=eo P (P.initFrom (k+1)) #[] .normal,callers:=[],status:=.running,dying:=none } y
    |none=>.ended (.done v) y):=fun hk y=>by
   unfold uo;cases qY:fr.kind<;>first|exact absurd qY hk|rfl
  by_cases hk:fr.kind=.report
  .exact .inr fun y=>⟨.stuck "report: Error or String returned no string" "",by obtain⟨fn,tmps,todo,defers,mode,kind,roundOf⟩:=fr;simp only at hk;subst hk;cases v<;>rfl⟩
  .cases hi:P.inits.idxOf? fr.fn with
   |some k=>exact .inl ⟨_,fq (cs:=[]) (oA T _ _ _) sN,rfl,fun y=>by rw[key hk,hi]⟩
   |none=>exact .inr fun y=>⟨_,by rw[key hk,hi]⟩
theorem zO[uK](T:Quiet P){fr:bT}{cs:List bT}(hfr:dw fr)(hcs:∀c∈cs,dw c){s:iN aj}(hs:Calm P Any s)(cV:dv lw)(V:jo lw w)(F:ak->GStep)
  (h:∃K:Result aj × Array gq->GStep,(∀y,F y=K (s.runT P y #[]))/\(∀v es,∃es',(∀e∈es'++#[],e∈es)/\∀x,K (.ok v x,es)=.after es' (uo P true fr cs none v x))/\(∀h x es,∃o es',K (.halt h x,es)=.ended o x es')) :
  Io P lw (F lw) (fun I d=>F (dn w I d)):=by
 obtain⟨K,h1,h2,h3⟩:=h;refine yT hs cV V F ⟨K,h1,fun why x es=>h3 _ x es,fun r hr=>?_⟩;cases r with
 |error h=>exact lz.ended fun x new=>by obtain⟨o,es',e⟩:=h3 h x new;exact⟨_,_,_,e⟩
 |ok v=>
  intro x new;rcases xC T hfr hcs v with⟨g,hg,hgd,e⟩|e
  .refine .inr (.inr (.inr (.inl ?_)));obtain⟨es',he,e2⟩:=h2 v new;exact⟨g,_,hg,hgd,he,fun y=>by rw[show AL (.ok v) y=.ok v y from rfl,e2,e];rfl⟩
  obtain⟨o,e⟩:=e x;obtain⟨es',he,e2⟩:=h2 v new;exact .inl ⟨o,x,_,by rw[show AL (.ok v) x=.ok v x from rfl,e2,e];rfl⟩
theorem fL{es:Array gq}{p:aL}{fn:dU}:∀e,e∈seen p fn es++#[]->e∈es:=fun e h=>by
 rw[dZ] at h;exact mem_seen h
theorem Bj[uK](T:Quiet P){fr:bT}{cs:List bT}(hfr:dw fr)(hcs:∀c∈cs,dw c){d:Deferred}(hd:pE d=true)(cV:dv lw)(V:jo lw w) :
  Io P lw (callDeferred P fr cs none d lw) (fun I d'=>callDeferred P fr cs none d (dn w I d')):=by
 by_cases hn:((d.target matches .nil)&&(fr.mode matches .panicking _))=true
 .have:∀y,∃o,callDeferred P fr cs none d y=.ended o y #[]:=fun y=>⟨_,by unfold callDeferred;exact if_pos hn⟩
  obtain⟨o,e⟩:=this lw;rw[e];trivial
 refine yT (rL T.toVq d.target d.args hd) cV V (fun y=>callDeferred P fr cs none d y) ⟨?K,fun y=>?_,?_,?_⟩
 rotate_left
 .unfold callDeferred;refine(if_neg hn).trans ?_;generalize (invoke d.target d.args).runT P y #[]=x;exact rfl
 .intro why x es;exact⟨_,_,rfl⟩
 .intro r hr;cases r with
  |ok n=>
   cases n with
   |enter f args=>exact lz.go (fq (oA T f args _) (Dp hfr hcs)) rfl _ (fun _=>fL) fun y new=>rfl
   |round l f tmps a b=>exact lz.go (fq (xA hr.1 hr.2 _) (Dp hfr hcs)) rfl _ (fun _=>fL) fun y new=>rfl
   |recover=>
    intro x new;refine .inr (.inr (.inr (.inl ?_)));cases hm:fr.mode with
    |returning=>
     cases ht:tryRecover fr cs with
     |none=>exact⟨_,_,fq hfr hcs,rfl,fL,fun y=>by simp only[AL,hm,ht];rfl⟩
     |some z=>exact⟨_,_,fq hfr (mH (v:=z.1) (cs':=z.2) hcs ht),rfl,fL,fun y=>by simp only[AL,hm,ht];rfl⟩
    |_=>exact⟨_,_,fq hfr hcs,rfl,fL,fun y=>by simp only[AL,hm];rfl⟩
   |value v=>exact lz.go (fq hfr hcs) rfl _ (fun _=>fL) fun y new=>rfl
   |skip=>exact lz.go (fq hfr hcs) rfl _ (fun _=>fL) fun y new=>rfl
   |defer d=>exact lz.go (fq hfr hcs) rfl _ (fun _=>fL) fun y new=>rfl
   |comm c b sh=>exact lz.go (fq hfr hcs) rfl _ (fun _=>fL) fun y new=>rfl
   |spawn d=>exact lz.go (fq hfr hcs) rfl _ (fun _=>fL) fun y new=>rfl
   |_=>exact hr.elim
  |error h=>
   cases h with
   |panic v=>exact lz.go (fq (hfr.raise _) hcs) rfl _ (fun _=>fL) fun y new=>rfl
   |goexit=>exact lz.go (fq (hfr.raise _) hcs) rfl _ (fun _=>fL) fun y new=>rfl
   |blocked=>exact absurd rfl hr.1
   |waiting=>exact absurd rfl hr.2
   |exit c=>exact lz.ended fun x new=>⟨_,_,_,rfl⟩
   |fatal m=>
    intro x new;dsimp only[AL];rcases uC (P:=P) fr cs none m x with⟨o,y,es',e⟩|⟨g,y,es',e,hd⟩
    .rw[e];exact .inl ⟨_,_,_,rfl⟩
    rw[e];exact .inr (.inl ⟨_,_,_,rfl,hd⟩)
   |throw m=>exact lz.Fa fun x new=>⟨_,_,_,rfl,.inl rfl,_,rfl,rfl,NoEnter.nil P⟩
   |unsupported u=>exact lz.ended fun x new=>⟨_,_,_,rfl⟩
   |stuck s=>exact lz.ended fun x new=>⟨_,_,_,rfl⟩
theorem pY[uK]{g:aC}(cV:dv lw)(V:jo lw w)(hg:Ap g)(hgd:g.dying=none)(F:ak->GStep)(h:∀y,F y=.go g y #[]):Io P lw (F lw) (fun I d=>F (dn w I d)):=by
 rw[h lw];exact Tc cV V hg hgd fun I d=>h _
theorem lW[uK](F:ak->GStep)(h:∀y,∃o y' es,F y=.ended o y' es):Io P lw (F lw) (fun I d=>F (dn w I d)):=by
 obtain⟨o,y',es,e⟩:=h lw;rw[e];trivial
theorem F_[uK](F:ak->GStep)(h:(∃o y' es,F lw=.ended o y' es)\/∃g y es,F lw=.go g y es/\g.dyingOn P):Io P lw (F lw) (fun I d=>F (dn w I d)):=by
 rcases h with⟨o,y',es,e⟩|⟨g,y,es,e,hd⟩
 .rw[e];trivial
 rw[e];exact .inl hd
theorem M_[uK](T:Quiet P){fr:bT}{cs:List bT}(hfr:dw fr)(hcs:∀c∈cs,dw c)(cV:dv lw)(V:jo lw w) :
  Io P lw (l_ P true fr cs none lw) (fun I d=>l_ P true fr cs none (dn w I d)):=by
 obtain⟨ft,fd⟩:=hfr;obtain⟨fn,tmps,todo,defers,mode,kind,roundOf⟩:=fr;simp only at ft fd;cases defers with
 |cons d ds=>
  simp only[dP,aF] at fd;obtain⟨target,args⟩:=d;cases target with
  |collected block=>
   refine yT (P:=P) (zZ block) cV V (fun y=>l_ P true _ cs none y) ⟨?K,fun y=>?_,?_,?_⟩
   rotate_left
   .unfold l_;dsimp only;generalize (Instr.takeDeferred block).runT P y #[]=x;exact rfl
   .intro why x es;exact⟨_,_,rfl⟩
   .intro r hr;cases r with
    |ok calls=>exact lz.go (fq ⟨ft,by show(calls++ds).all pE=true;rw[List.all_append,fd.2,Bool.and_true];exact hr⟩ hcs) rfl _ (fun _=>fL) fun y new=>rfl
    |error h=>exact lz.ended fun x new=>⟨_,_,_,rfl⟩
  |_=>exact Bj T (fr:=⟨fn,tmps,todo,ds,mode,kind,roundOf⟩) ⟨ft,fd.2⟩ hcs fd.1 cV V
 |nil=>
  cases mode with
  |run=>exact lW (fun y=>l_ P true _ cs none y) fun y=>⟨_,_,_,rfl⟩
  |panicking chain=>
   by_cases hc:(Frame.catches P ⟨fn,tmps,todo,[],.panicking chain,kind,roundOf⟩)=true
   .exact lW (fun y=>l_ P true _ cs none y) fun y=>⟨_,_,_,by unfold l_;simp only[hc,if_true];rfl⟩
   .cases cs with
    |cons c rest=>
     exact pY cV V (fq ((hcs c (dr ..)).raise chain) fun x hx=>hcs x (bY _ hx)) rfl (fun y=>l_ P true _ _ none y) fun y=>by unfold l_;simp only[hc];rfl
    |nil=>
     by_cases hg:(chain.head?.any (·.goexit))=true
     .exact pY (g:=⟨⟨fn,tmps,todo,[],.panicking chain,kind,roundOf⟩,[],.finished,none,none⟩) cV V ⟨⟨ft,rfl⟩,sN,.inr rfl⟩ rfl (fun y=>l_ P true _ _ none y) fun y=>by unfold l_;simp only[hc,hg,if_true];rfl
     refine F_ (fun y=>l_ P true _ [] none y) ?_;unfold l_;simp only[hc,hg,if_false,bE];split
     .exact .inr ⟨_,_,_,rfl,.inl rfl,_,rfl,rfl,T.enters _⟩
     .exact .inl ⟨_,_,_,rfl⟩
     exact .inl ⟨_,_,_,rfl⟩
  |returning=>
   cases hf:P.funcs[fn]? with
   |none=>
    rcases xC T (fr:=⟨fn,tmps,todo,[],.returning,kind,roundOf⟩) ⟨ft,rfl⟩ hcs (tmps.getD 0 undef) with⟨g,hg,hgd,e⟩|e
    .exact pY cV V hg hgd (fun y=>l_ P true _ cs none y) fun y=>by unfold l_;simp only[hf];exact e y
    exact lW (fun y=>l_ P true _ cs none y) fun y=>by
     obtain⟨o,e⟩:=e y;exact⟨o,y,#[],by unfold l_;simp only[hf];exact e⟩
   |some fn'=>
    refine zO T (fr:=⟨fn,tmps,todo,[],.returning,kind,roundOf⟩) ⟨ft,rfl⟩ hcs (z_ fn' tmps) cV V (fun y=>l_ P true _ cs none y) ⟨?K2,fun y=>?_,?_,?_⟩
    rotate_left
    .unfold l_;simp only[hf];generalize (results fn' tmps).runT P y #[]=x;exact rfl
    .intro v es;exact⟨_,fL,fun x=>rfl⟩
    intro h x es;cases h<;>exact⟨_,_,rfl⟩
end
section
variable{P:aL}{lw w:ak}
theorem Pr{x:Item}{l:List Item}(h:(x::l).all iQ=true):iQ x=true/\l.all iQ=true:=by
 simpa only[dP,aF] using h
theorem QG[uK](T:Quiet P){fr:bT}{cs:List bT}(hfr:dw fr)(hcs:∀c∈cs,dw c)(cV:dv lw)(V:jo lw w){l:Nat}(jump:Option Code)(hj:jump.all dX=true)(F:ak->GStep)
  (h:∃K:Result aj × Array gq->GStep,(∀y,F y=K ((Instr.endRound l jump).runT P y #[]))/\(∀v es,∃es',(∀e∈es'++#[],e∈es)/\∀x,K (.ok v x,es)=.after es' (uo P true fr cs none v x))/\(∀h x es,∃o es',K (.halt h x,es)=.ended o x es')) :
  Io P lw (F lw) (fun I d=>F (dn w I d)):=zO T hfr hcs (GF l jump hj) cV V F h
theorem TC[uK](T:Quiet P){fr:bT}{cs:List bT}(hfr:dw fr)(hcs:∀c∈cs,dw c)(cV:dv lw)(V:jo lw w) :
  Io P lw (eW P true fr cs none lw) (fun I d=>eW P true fr cs none (dn w I d)):=by
 cases ho:fr.oper? with
 |none=>exact lW (fun y=>eW P true fr cs none y) fun y=>⟨_,_,_,by unfold eW;rw[ho]⟩
 |some o=>
  have hoo:AH o=true:=by
   unfold Frame.oper? at ho;split at ho
   .rename_i aM i rest k e;have:=hfr.todo;rw[e] at this;have h1:=(Pr this).1;simp only[iQ,Array.all_eq_true] at h1;obtain⟨hi,rfl⟩:=ah.1 ho;exact h1 i hi
   cases ho
  have gen:∀y,(∀c l,fr.roundOf=some l->o.op≠.defer c)->eW P true fr cs none y=ek P true fr cs none (execOp fr.eval o) y:=fun y hn=>by
   unfold eW;rw[ho];cases hr:fr.roundOf with
   |none=>rfl
   |some l=>
    dsimp only;split
    .rename_i e1 e2;exact absurd e2 (hn _ _ hr)
    rfl
  by_cases hd:∃c l,fr.roundOf=some l/\o.op=.defer c
  .obtain⟨c,l,hr,hop⟩:=hd
   have e:∀y,eW P true fr cs none y=ek P true fr cs none (do Instr.deferInRound l (<-resolve fr.eval c o.type);pure .skip) y:=fun y=>by
    unfold eW;rw[ho];simp only[hr,hop]
   simp only[e];refine wM T hfr hcs ?_ cV V
   have hc:Ja c=true:=by
    unfold AH at hoo;rw[hop] at hoo;exact hoo
   exact eM (l5 _ _ _ hc) fun d hd=>aS (Aa l d hd) fun _=>trivial
  have hn:∀c l,fr.roundOf=some l->o.op≠.defer c:=fun c l h1 h2=>hd ⟨c,l,h1,h2⟩;simp only[fun y=>gen y hn];exact wM T hfr hcs (Ms T.toVq _ _ hoo) cV V
theorem Qu[uK]{s:GStep}{f}(h:Io P lw s f){es:Array gq}(he:∀e∈es,Bu lw.heap.size e):Io P lw (BD es s) (fun I d=>BD es (f I d)):=by
 cases s with
 |ended=>trivial
 |spawn=>trivial
 |go g' ey es'=>
  rcases h with h|⟨hg,hgd,w',k,hb,hf⟩
  .exact .inl h
  refine .inr ⟨hg,hgd,w',k,⟨hb.tape,hb.drawn,hb.grows,hb.ok,fun e hx=>?_,hb.tN⟩,fun I d ha=>by dsimp only;rw[hf I d ha];rfl⟩;rcases GZ.1 hx with hx|hx
  .exact(he e hx).mono hb.grows
  exact hb.evs e hx
 |comm g' cs b sh ey es'=>
  obtain⟨hg,hd,w',k,hb,hf⟩:=h;refine⟨hg,hd,w',k,⟨hb.tape,hb.drawn,hb.grows,hb.ok,fun e hx=>?_,hb.tN⟩,fun I d ha=>by dsimp only;rw[hf I d ha];rfl⟩;rcases GZ.1 hx with hx|hx
  .exact(he e hx).mono hb.grows
  exact hb.evs e hx
 |_=>exact h.elim
theorem wN{a b:Nat}{I I':Nat->dH->Nat}{d d':Nat}(h:Agree (a+b) I d I' d'):Agree a I d I' d'/\Agree b I (d+a) I' (d'+a):=
 ⟨h.le oN,fun i hi=>by have:=h (a+i) oN;rwa [<-qV,<-qV] at this⟩
theorem Qt[uK]{ey:ak}{s:GStep}{f f'}{n:Nat}(h:Io P ey s f')(ht:ey.tape=lw.tape)(hd:ey.drawn=lw.drawn+n)(hs:lw.heap.size<=ey.heap.size)
  (hf:∀I d,Agree n lw.tape lw.drawn I d->f I d=f' I (d+n)):Io P lw s f:=by
 cases s with
 |ended=>trivial
 |spawn=>trivial
 |go g' ZQ es'=>
  rcases h with h|⟨hg,hgd,w',k,hb,hf'⟩
  .exact .inl h
  refine .inr ⟨hg,hgd,w',n+k,⟨hb.tape.trans ht,by rw[hb.drawn,hd];omega,aG hs hb.grows,hb.ok,hb.evs,hb.tN⟩,fun I d ha=>?_⟩;obtain⟨h1,h2⟩:=wN ha;rw[hf I d h1,hf' I (d+n) (by rw[ht,hd];exact h2),qV]
 |comm g' cs b sh ZQ es'=>
  obtain⟨hg,MZ,w',k,hb,hf'⟩:=h;refine⟨hg,MZ,w',n+k,⟨hb.tape.trans ht,by rw[hb.drawn,hd];omega,aG hs hb.grows,hb.ok,hb.evs,hb.tN⟩,fun I d ha=>?_⟩;obtain⟨h1,h2⟩:=wN ha;rw[hf I d h1,hf' I (d+n) (by rw[ht,hd];exact h2),qV]
 |_=>exact h.elim
theorem UZ[uK](T:Quiet P){fr:bT}{cs:List bT}(hfr:dw fr)(hcs:∀c∈cs,dw c)(cV:dv lw)(V:jo lw w) :
  Io P lw (cA P true true fr cs none lw) (fun I d=>cA P true true fr cs none (dn w I d)):=by
 have hfr0:=hfr;obtain⟨ft,fd⟩:=hfr;obtain⟨fn,tmps,todo,defers,mode,kind,roundOf⟩:=fr;simp only at ft fd
 have leave:∀(jump:Option Code),jump.all dX=true->∀F:ak->GStep,(∀y,F y=(match (generalizing:=false) roundOf with
   |none=>if jump matches none|some .ret then .go { frame:={ fn:=fn,tmps:=tmps,todo:=todo,defers:=defers,mode:=.returning,kind:=kind,roundOf:=roundOf },callers:=cs,status:=.running,dying:=none } y
     else .ended (.stuck "exit, goto: no such block or label" (Frame.pos P ⟨fn,tmps,todo,defers,mode,kind,roundOf⟩)) y
   |some l=>
    let (r,es):=(Instr.endRound l jump).runT P y #[]
    BD (seen P fn es) <| match r with
    |.ok v w=>uo P true ⟨fn,tmps,todo,defers,mode,kind,roundOf⟩ cs none v w
    |.halt _ w=>.ended (.stuck "range over a function: no such loop" (Frame.pos P ⟨fn,tmps,todo,defers,mode,kind,roundOf⟩)) w))->
   Io P lw (F lw) (fun I d=>F (dn w I d)):=by
  intro jump hj F hF;cases roundOf with
  |none=>
   by_cases hm:(match (generalizing:=false) jump with|none|some .ret=>true|_=>false)=true
   .exact pY cV V (fq (fr:={ fn:=fn,tmps:=tmps,todo:=todo,defers:=defers,mode:=.returning,kind:=kind,roundOf:=none }) ⟨ft,fd⟩ hcs) rfl F fun y=>(hF y).trans (if_pos hm)
   exact lW F fun y=>⟨_,_,_,(hF y).trans (if_neg hm)⟩
  |some l=>
   refine QG T hfr0 hcs cV V (l:=l) jump hj F ⟨?K,fun y=>?_,?_,?_⟩
   rotate_left
   .rw[hF y];dsimp only;generalize (Instr.endRound l jump).runT P y #[]=x;exact rfl
   .intro v es;exact⟨_,fL,fun x=>rfl⟩
   intro h x es;exact⟨_,_,rfl⟩
 have to:∀(t:List Item),t.all iQ=true->∀F:ak->GStep,(∀y,F y=.go { frame:={ fn:=fn,tmps:=tmps,todo:=t,defers:=defers,mode:=mode,kind:=kind,roundOf:=roundOf },callers:=cs,status:=.running,dying:=none } y #[])->
   Io P lw (F lw) (fun I d=>F (dn w I d)):=fun t ht F hF=>pY cV V (fq ⟨ht,fd⟩ hcs) rfl F hF
 have ended:∀F:ak->GStep,(∀y,∃o y' es,F y=.ended o y' es)->Io P lw (F lw) (fun I d=>F (dn w I d)):=fun F hF=>lW F hF;cases todo with
 |nil=>exact leave none rfl (fun y=>cA P true true _ cs none y) fun y=>rfl
 |cons x k=>
  obtain⟨hx,hk⟩:=Pr ft;have cons:∀(y:Item) (l:List Item),iQ y=true->l.all iQ=true->(y::l).all iQ=true:=fun y l h1 h2=>by rw[dP,h1,h2];rfl
  cases x with
  |inBlock id=>exact to k hk (fun y=>cA P true true _ cs none y) fun y=>rfl
  |inScope body=>exact to k hk (fun y=>cA P true true _ cs none y) fun y=>rfl
  |inLoop body=>exact to _ (cons (.code body) _ hx (cons (.inLoop body) _ hx hk)) (fun y=>cA P true true _ cs none y) fun y=>rfl
  |inRegion aM l=>
   cases l with
   |nil=>exact to k hk (fun y=>cA P true true _ cs none y) fun y=>rfl
   |cons i rest=>
    by_cases hw:(((aM[i]?).map (Region.wanted · (yielded aM tmps))).getD false)=true
    .have e:∀y,cA P true true ⟨fn,tmps,.inRegion aM (i::rest)::k,defers,mode,kind,roundOf⟩ cs none y=eW P true ⟨fn,tmps,.inRegion aM (i::rest)::k,defers,mode,kind,roundOf⟩ cs none y:=fun y=>if_pos hw;simp only[e];exact TC T hfr0 hcs cV V
    exact pY cV V (fq (hfr0.finish undef) hcs) rfl (fun y=>cA P true true _ cs none y) fun y=>if_neg hw
  |inRangeFunc l=>exact ended (fun y=>cA P true true _ cs none y) fun y=>⟨_,_,_,rfl⟩
  |endRangeFunc l=>
   refine yT (P:=P) (JR l) cV V (fun y=>cA P true true _ cs none y) ⟨?K1,fun y=>?_,?_,?_⟩
   rotate_left
   .unfold cA;dsimp only;generalize (Instr.endLoop l).runT P y #[]=x;exact rfl
   .intro why x es;exact⟨_,_,rfl⟩
   .intro r hr;cases r with
    |ok jump=>
     have ht:((jump.map Item.code).toList++k).all iQ=true:=by
      rw[List.all_append,hk,Bool.and_true];cases jump with
      |none=>rfl
      |some c=>
       have:dX c=true:=hr;simp[iQ,this]
     exact lz.go (fq (fr:={ fn:=fn,tmps:=tmps,todo:=(jump.map Item.code).toList++k,defers:=defers,mode:=mode,kind:=kind,roundOf:=roundOf }) ⟨ht,fd⟩ hcs) rfl _ (fun _=>fL) fun y new=>rfl
    |error h=>
     cases h with
     |panic v=>exact lz.go (fq (hfr0.raise _) hcs) rfl _ (fun _=>fL) fun y new=>rfl
     |_=>exact lz.ended fun x new=>⟨_,_,_,rfl⟩
  |beginRound=>
   refine wM T hfr0 hcs ?_ cV V;cases roundOf with
   |none=>exact aS (bF (Q:=Any)) fun _=>trivial
   |some l=>exact aS (C5 l) fun _=>trivial
  |call d a b c=>exact absurd hx (by simp[iQ])
  |extern r a=>exact absurd hx (by simp[iQ])
  |code c=>
   have hc:dX c=true:=hx;cases c with
   |ret=>exact leave (some .ret) rfl (fun y=>cA P true true _ cs none y) fun y=>rfl
   |skip=>exact to k hk (fun y=>cA P true true _ cs none y) fun y=>rfl
   |label l=>exact to k hk (fun y=>cA P true true _ cs none y) fun y=>rfl
   |seq a b=>
    simp only[dX,aF] at hc;exact to _ (cons (.code a) _ hc.1 (cons (.code b) _ hc.2 hk)) (fun y=>cA P true true _ cs none y) fun y=>rfl
   |cond c t e=>
    simp only[dX,aF] at hc
    by_cases hb:∃b,Frame.eval ⟨fn,tmps,.code (.cond c t e)::k,defers,mode,kind,roundOf⟩ c=.bool b
    .obtain⟨b,hb⟩:=hb
     have e:∀y,cA P true true ⟨fn,tmps,.code (.cond c t e)::k,defers,mode,kind,roundOf⟩ cs none y=.go { frame:={ fn:=fn,tmps:=tmps,todo:=.code (if b then t else e)::k,defers:=defers,mode:=mode,kind:=kind,roundOf:=roundOf },callers:=cs,status:=.running,dying:=none } y #[]:=fun y=>by
      unfold cA;simp only[hb]
     exact to _ (cons _ _ (by cases b;exact hc.2;exact hc.1) hk) (fun y=>cA P true true _ cs none y) e
    refine ended (fun y=>cA P true true _ cs none y) fun y=>⟨.stuck "cond: bool expected" (Frame.pos P ⟨fn,tmps,.code (.cond c t e)::k,defers,mode,kind,roundOf⟩),y,#[],?_⟩
    unfold cA;dsimp only;split
    .rename_i b hb';exact absurd ⟨b,hb'⟩ hb
    exact rfl
   |block id body=>exact to _ (cons (.code body) _ hc (cons (.inBlock id) _ rfl hk)) (fun y=>cA P true true _ cs none y) fun y=>rfl
   |loop body=>exact to _ (cons (.code body) _ hc (cons (.inLoop body) _ hc hk)) (fun y=>cA P true true _ cs none y) fun y=>rfl
   |scope body=>exact to _ (cons (.code body) _ hc (cons (.inScope body) _ hc hk)) (fun y=>cA P true true _ cs none y) fun y=>rfl
   |exit id=>
    cases he:exitTo id k with
    |none=>exact leave (some (.exit id)) rfl (fun y=>cA P true true _ cs none y) fun y=>by unfold cA;simp only[he];rfl
    |some k'=>exact to k' (A5 hk he) (fun y=>cA P true true _ cs none y) fun y=>by unfold cA;simp only[he];rfl
   |goto l=>
    cases he:gotoIn l k with
    |none=>exact leave (some (.goto l)) rfl (fun y=>cA P true true _ cs none y) fun y=>by unfold cA;simp only[he];rfl
    |some k'=>exact to k' (A1 hk he) (fun y=>cA P true true _ cs none y) fun y=>by unfold cA;simp only[he];rfl
   |refuse why=>exact ended (fun y=>cA P true true _ cs none y) fun y=>⟨_,_,_,rfl⟩
   |region id aM draw=>
    cases draw with
    |false=>exact to _ (cons (.inRegion aM _) _ hc hk) (fun y=>cA P true true _ cs none y) fun y=>rfl
    |true=>
     have e:∀y:ak,cA P true true ⟨fn,tmps,.code (.region id aM true)::k,defers,mode,kind,roundOf⟩ cs none y =
       .go { frame:={ fn:=fn,tmps:=tmps,todo:=.inRegion aM (Region.schedule (P.follows .mixedOrders) aM (y.tape y.drawn (.order fn id)))::k,defers:=defers,mode:=mode,kind:=kind,roundOf:=roundOf },callers:=cs,status:=.running,dying:=none } { y with drawn:=y.drawn+1 } #[]:=fun y=>rfl
     rw[e lw];refine .inr ⟨fq (fr:={ fn:=fn,tmps:=tmps,todo:=.inRegion aM _::k,defers:=defers,mode:=mode,kind:=kind,roundOf:=roundOf }) ⟨cons (.inRegion aM _) _ hc hk,fd⟩ hcs,rfl,w,1,⟨rfl,rfl,aJ _,cV,sN,⟨V.size,V.os,V.out,V.at_,V.old,V.kept⟩⟩,fun I d ha=>?_⟩;dsimp only;rw[e];have h0:lw.tape lw.drawn=I d:=ha 0 oN;rw[h0];rfl
   |rangeFunc f params assign body=>
    simp only[dX,aF] at hc
    have zG:∀x:bT,Calm P eP (do let d <-resolve x.eval { callee:=.value f,args:=#[.const (.func (.yield (0:Nat)) #[] #[])],argTypes:=#[] } 0;invoke d.target d.args):=fun x=>
     eM (l5 _ _ _ rfl) fun d hd=>rL T.toVq _ _ hd
    rcases wJ (Fv (P:=P) fn tmps params assign body roundOf hc.1 hc.2) cV V with⟨why,ey,h⟩|⟨ey,w',n,r,new,h⟩
    .obtain⟨es,he⟩:=h #[]
     have:∃o es',cA P true true ⟨fn,tmps,.code (.rangeFunc f params assign body)::k,defers,mode,kind,roundOf⟩ cs none lw=.ended o ey es':=by
      unfold cA;simp only[he];exact⟨_,_,rfl⟩
     obtain⟨o,es',e⟩:=this;rw[e];trivial
    .cases r with
     |error hh=>
      have:∃o es',cA P true true ⟨fn,tmps,.code (.rangeFunc f params assign body)::k,defers,mode,kind,roundOf⟩ cs none lw=.ended o ey es':=by
       unfold cA;simp only[h.lone #[]];exact⟨_,_,rfl⟩
      obtain⟨o,es',e⟩:=this;rw[e];trivial
     |ok z=>
      obtain⟨l,mark⟩:=z;have hm:mark.all pE=true:=h.res;have ahh:dw ⟨fn,tmps,.inRangeFunc l::k,mark++defers,mode,kind,roundOf⟩:=⟨cons (.inRangeFunc l) _ rfl hk,by show(mark++defers).all pE=true;rw[List.all_append,hm,fd];rfl⟩
      have key:∀(y y':ak) (new:Array gq),(Instr.enterLoop fn tmps params assign body roundOf).runT P y #[]=(.ok (l,mark) y',new)->cA P true true ⟨fn,tmps,.code (.rangeFunc f params assign body)::k,defers,mode,kind,roundOf⟩ cs none y =
        BD (seen P fn new) (ek P true ⟨fn,tmps,.inRangeFunc l::k,mark++defers,mode,kind,roundOf⟩ cs none (do let d <-resolve (Frame.eval ⟨fn,tmps,.inRangeFunc l::k,mark++defers,mode,kind,roundOf⟩) { callee:=.value f,args:=#[.const (.func (.yield l) #[] #[])],argTypes:=#[] } 0;invoke d.target d.args) y'):=fun y y' new e=>by
       rw[cA];dsimp only;rw[e]
      have hl:=h.lone #[];rw[eZ] at hl;rw[key lw ey new hl];have inner:=wM (lw:=ey) (w:=w') T ahh hcs (s:=(do let d <-resolve (Frame.eval ⟨fn,tmps,.inRangeFunc l::k,mark++defers,mode,kind,roundOf⟩) { callee:=.value f,args:=#[.const (.func (.yield l) #[] #[])],argTypes:=#[] } 0;invoke d.target d.args)) (eM (l5 _ _ _ rfl) fun d hd=>rL T.toVq _ _ hd) h.ok h.tN;refine Qt (Qu inner (es:=seen P fn new) fun e he=>h.evs e (mem_seen he)) h.tape h.drawn h.grows fun I d ha=>?_;have hm2:=h.many I d ha #[];rw[eZ] at hm2;exact key _ _ _ hm2
theorem Hg[uK](T:Quiet P){g:aC}(hg:Ap g)(hd:g.dying=none)(cV:dv lw)(V:jo lw w) :
  Io P lw (fe P true g lw) (fun I d=>fe P true g (dn w I d)):=by
 obtain⟨fr,cs,st,dy,off⟩:=g;simp only at hd;subst hd;obtain⟨hf,hc,_⟩:=hg;cases hm:fr.mode with
 |run=>
  have e:∀y,fe P true ⟨fr,cs,st,none,off⟩ y=cA P true true fr cs none y:=fun y=>by unfold fe;simp only[hm]
  simp only[e];exact UZ T hf hc cV V
 |_=>
  have e:∀y,fe P true ⟨fr,cs,st,none,off⟩ y=l_ P true fr cs none y:=fun y=>by unfold fe;simp only[hm]
  simp only[e];exact M_ T hf hc cV V
end
open Go.Conc
def lT(gs:Array aC):Prop:=∀g∈gs,g.status≠.blocked
def mI{gs:Array aC}(h:lT gs)(r:Nat)(b:Bool):partners gs r b=[]:=by
 unfold partners;rw[List.flatMap_eq_nil_iff];rintro⟨g,i⟩ hx
 have hg:g∈gs:=by
  have:(g,i)∈gs.toList.zipIdx:=by simpa using hx
  exact Array.mem_toList_iff.1 (List.fst_mem_of_mem_zipIdx this)
 have:=h g hg;dsimp only;split
 .rename_i e _;exact absurd e this
 rfl
def Ha{gs:Array aC}(h:lT gs)(w:ak)(c:m7):ways w gs c=ways w #[] c:=by
 unfold ways;simp only[mI h,mI (gs:=#[]) (by intro g hg;simp at hg)]
def Qj[uK]{lw w:ak}(V:jo lw w)(c:m7):ways w #[] c=ways lw #[] c:=by
 unfold ways;split
 .rename_i r _;rcases V.at_ r with h|⟨h1,o,h2,h3⟩
  .rw[h]
  rw[h1,h2]
  have:∀cap buf cl s r tm,o≠.chan cap buf cl s r tm:=by
   intro cap buf cl s r tm e;subst e;cases h3
  cases o<;>first|rfl|exact absurd rfl (this _ _ _ _ _ _)
 rfl
def Ko(w:ak)(c:m7):ways w #[] c=[]\/ways w #[] c=[.sendClosed]\/ways w #[] c=[.buffer]\/ways w #[] c=[.closed]:=by
 unfold ways;have e:∀r b,partners #[] r b=[]:=fun r b=>mI (by intro g hg;simp at hg) r b;simp only[e];split
 .split
  .split
   .simp
   split<;>simp
  .split
   .simp
   split<;>simp
  simp
 simp
def Qk{w:ak}{c:m7}(h:ways w #[] c≠[]):∃r cap buf cl s rc tm,c.chan=.chan (some r)/\w.heap[r]?=some (Obj.chan cap buf cl s rc tm):=by
 unfold ways at h;split at h
 .rename_i r hr;split at h
  .rename_i h1 _;exact⟨r,_,_,_,_,_,_,hr,h1⟩
  .rename_i h1 _;exact⟨r,_,_,_,_,_,_,hr,h1⟩
  exact absurd rfl h
 exact absurd rfl h
def Nl{P:aL}(ready:List (Nat × m7 × List Way))(h1:∀y∈ready,y.2.2.length=1)(hne:ready≠[])(w:ak) :
  (do
   let a <-Am (.select ready.length);let (k,c,ws):=ready.getD a (0,default,[])
   let b <-Am (.extern "which waiting goroutine is the partner" ws.length)
   pure (k,c,ws.getD b .closed):iN (Nat × m7 × Way)).run P w =
  (if ready.length<=1 then .ok ((ready.getD 0 (0,default,[])).1,(ready.getD 0 (0,default,[])).2.1,(ready.getD 0 (0,default,[])).2.2.getD 0 .closed) w
   else .ok ((ready.getD (w.tape w.drawn (.select ready.length) % ready.length) (0,default,[])).1,(ready.getD (w.tape w.drawn (.select ready.length) % ready.length) (0,default,[])).2.1,(ready.getD (w.tape w.drawn (.select ready.length) % ready.length) (0,default,[])).2.2.getD 0 .closed) { w with drawn:=w.drawn+1 }):=by
 have hl:0<ready.length:=cB.2 hne
 have key:∀a,a<ready.length->(ready.getD a (0,default,[])).2.2.length=1:=fun a ha=>by
  rw[List.getD_eq_getElem?_getD,h_ ha];exact h1 _ (bG ha)
 by_cases hn:ready.length<=1
 .rw[if_pos hn];have:=key 0 hl;simp only[Am,bind,Sem.bind,Sem.run,Question.forced,hn,decide_true,if_true,this];simp[pure,Sem.run]
 rw[if_neg hn];have:=key (w.tape w.drawn (.select ready.length) % ready.length) (Nat.mod_lt _ hl);simp only[Am,bind,Sem.bind,Sem.run,Question.forced,hn,decide_false,Question.cut];simp only[bE,if_false,this];simp[pure,Sem.run]
def VJ(B:Nat)(op:MemOp):Prop:=op.g=0/\∃r n m,r<B/\(op.act=.send r n\/op.act=.sendDone r n\/op.act=.recv r n m\/op.act=.recvDone r n\/op.act=.recvClosed r)
def any_congr{f f':m7->Bool}(h:∀c,f c=f' c)(cs:Array m7):cs.any f=cs.any f':=by rw[funext h]
def ur{rest:Rest}(h:rest.timers = #[])(cs:Array m7)(w:ak):waitingAt rest cs w=some w:=by
 unfold waitingAt
 have:timerAhead rest w.os.mono cs=false:=by
  unfold timerAhead;rw[h];rw[Array.any_eq_false];intro i hi;split<;>simp
 rw[this];rfl
section
variable{P:aL}{lw w:ak}
structure Yp[uK](P:aL)(g:aC)(cs:Array m7)(b:Bool)(sh:CommShape)(lw w:ak)(aM:Array MemOp)(g':aC)(ey w':ak)(k:Nat):Prop where
 gok:Ap g'
 dy:g'.dying=none
 run:g'.status=.running
 base:Base lw ey w' k #[]
 lists:∀op∈aM,VJ lw.heap.size op
 many:∀(gs:Array aC) (rest:Rest),lT gs->rest.timers = #[]->∀I d,Agree k lw.tape lw.drawn I d->mZ P rest gs 0 g cs b sh (dn w I d)=(.next { world:=dn w' I (d+k),gs:=gs.setIfInBounds 0 g',rest:=rest },aM)
theorem Mf[uK](T:Quiet P){d0:aC}(hd0:d0.status≠.blocked){rest0:Rest}(Js:rest0.timers = #[])(cV:dv lw)(V:jo lw w)
  {g:aC} (hg:Ap g) (hgd:g.dying=none) (hgr:g.status=.running) {cs:Array m7} {b:Bool} {sh:CommShape} {m':Machine} {aM:Array MemOp} (hl:mZ P rest0 #[d0] 0 g cs b sh lw=(.next m',aM)) :
  ∃g' ey,m'={ world:=ey,gs:=#[g'],rest:=rest0 }/\(g'.status=.blocked\/∃w' k,Yp P g cs b sh lw w aM g' ey w' k):=by
 have YN:lT #[d0]:=by intro x hx;simp at hx;rw[hx];exact hd0
 have e0:∀c,ways lw #[d0] c=ways lw #[] c:=fun c=>Ha YN lw c;have e1:∀(gs:Array aC) (qE:lT gs) I d c,ways (dn w I d) gs c=ways lw #[] c:=fun gs qE I d c=>(Ha qE _ c).trans (Qj (sG V I d) c);unfold mZ at hl
 extract_lets put illMade me other ready pick at hl
 have hrw:∀y∈ready,y.2.2.length=1:=by
  intro y hy;obtain⟨h1,h2⟩:=kx.1 hy;obtain⟨⟨c,k⟩,hc,rfl⟩:=dm.1 h1;dsimp only at h2 ⊢;rcases Ko lw c with h|h|h|h<;>rw[e0,h] at h2 ⊢<;>first|rfl|simp at h2
 split at hl
 .cases hl
 rename_i aap;have Lz:∀(I:Nat->dH->Nat) (d:Nat) (f:m7->Bool),(∀c,f c=illMade c)->¬cs.any f=true:=fun I d f hf hc=>aap ((any_congr (fun c=>(hf c).symm) cs).trans hc)
 by_cases YG:ready.isEmpty=true
 .
  have far:∀(gs:Array aC) (rest:Rest) (qE:lT gs) (ht:rest.timers = #[]) I d,mZ P rest gs 0 g cs b sh (dn w I d) =
    if b=true then(.next { world:=dn w I d,gs:=gs.setIfInBounds 0 { g with status:=.blocked,offers:=some (cs,sh) },rest:=rest },#[])
    else(.next { world:=dn w I d,gs:=gs.setIfInBounds 0 (g.finishComm P cs sh (-1) undef false),rest:=rest },#[]):=by
   intro gs rest qE ht I d;unfold mZ
   extract_lets put' zC I9 ready' pick'
   have hr:ready'=ready:=by simp only[ready,ready',e0,e1 gs qE]
   refine(if_neg (Lz I d _ fun c=>?_)).trans ?_
   .simp only[illMade,zC];split
    .rfl
    .rename_i r _;rcases(sG V I d).at_ r with h|⟨h1,o,h2,h3⟩
     .rw[h]
     rw[h1,h2];cases o<;>first|rfl|cases h3
    rfl
   rw[hr,if_pos YG,ur ht]
  rw[if_pos YG,ur Js] at hl;cases b with
  |true=>
   simp only[if_true] at hl;cases hl;exact⟨_,_,rfl,.inl rfl⟩
  |false=>
   simp only[bE,if_false,put] at hl;cases hl;exact⟨_,_,rfl,.inr ⟨w,0,⟨⟨hg.frame.finish _,hg.callers,.inl rfl⟩,hgd,rfl,Ij cV V,sN,fun gs rest qE ht I d _=>by rw[far gs rest qE ht];rfl⟩⟩⟩
 have hne:ready≠[]:=by simpa using YG
 have Xp:∃n y,y∈ready/\pick.run P lw=.ok (y.1,y.2.1,y.2.2.getD 0 .closed) { lw with drawn:=lw.drawn+n }/\∀x:ak,(∀i,i<n->x.tape (x.drawn+i)=lw.tape (lw.drawn+i))->pick.run P x=.ok (y.1,y.2.1,y.2.2.getD 0 .closed) { x with drawn:=x.drawn+n }:=by
  have hr:=fun x=>Nl (P:=P) ready hrw hne x;have hl0:0<ready.length:=cB.2 hne
  have hin:∀a,a<ready.length->ready.getD a (0,default,[])∈ready:=fun a ha=>by
   rw[List.getD_eq_getElem?_getD,h_ ha];exact bG ha
  by_cases hn:ready.length<=1
  .refine⟨0,ready.getD 0 (0,default,[]),hin 0 hl0,?_,fun x _=>?_⟩
   .exact(hr lw).trans (if_pos hn)
   exact(hr x).trans (if_pos hn)
  refine⟨1,ready.getD (lw.tape lw.drawn (.select ready.length) % ready.length) (0,default,[]),hin _ (Nat.mod_lt _ hl0),?_,fun x hx=>?_⟩
  .exact(hr lw).trans (if_neg hn)
  have h0:x.tape x.drawn=lw.tape lw.drawn:=hx 0 oN;refine(hr x).trans ((if_neg hn).trans ?_);rw[h0]
 obtain⟨n,y,hy,hp,hpx⟩:=Xp;rw[if_neg YG,hp] at hl
 have Kb:y.2.2=ways lw #[] y.2.1:=by
  obtain⟨h1,_⟩:=kx.1 hy;obtain⟨⟨c,k⟩,hc,rfl⟩:=dm.1 h1;exact e0 c
 obtain⟨k,c,ws⟩:=y;dsimp only at Kb hl hp hpx
 obtain⟨r,cap,buf,cl,aH,acy,tm,hcc,hh⟩:=Qk (w:=lw) (c:=c) (by
  intro e;have:=hrw _ hy;dsimp only at this;rw[Kb,e] at this
  cases this)
 have hh2:w.heap[r]?=some (Obj.chan cap buf cl aH acy tm):=by
  rcases V.at_ r with h'|⟨h',_⟩
  .rw[<-h'];exact hh
  rw[hh] at h';cases h'
 have hb:∀nE w₁:ak,nE.tape=lw.tape->nE.drawn=lw.drawn+n->nE.heap.size=lw.heap.size->dv nE->jo nE w₁->Base lw nE w₁ n #[]:=fun nE w₁ h1 h2 h3 h4 h5=>⟨h1,h2,oN,h4,sN,h5⟩
 have hgf:∀k v o,Ap (g.finishComm P cs sh k v o):=fun k v o=>⟨hg.frame.finish _,hg.callers,.inl rfl⟩
 simp only[hcc,hh] at hl;rcases Ko lw c with hw|hw|hw|hw
 .exfalso;have:=hrw _ hy;dsimp only at this;rw[Kb,hw] at this;cases this
 .
  have hw1:ws.getD 0 .closed=.sendClosed:=by rw[Kb,hw];rfl
  rw[hw1] at hl;dsimp only at hl;have V1:jo { lw with drawn:=lw.drawn+n } w:=⟨V.size,V.os,V.out,V.at_,V.old,V.kept⟩
  rcases wJ (iI (P:=P) (.plain "send on closed channel")) (lw:={ lw with drawn:=lw.drawn+n }) (w:=w) cV V1 with⟨why,ey,h⟩|⟨ey,w',n2,r2,new,h⟩
  .obtain⟨es',he⟩:=h #[]
   have:(eu (.plain "send on closed channel"):iN Unit).run P { lw with drawn:=lw.drawn+n }=.halt (.stuck why) ey:=by
    have e:=congrArg Prod.fst he;rwa [Sem.runT_eq] at e
   rw[this] at hl;cases hl
  .have h1:(eu (.plain "send on closed channel"):iN Unit).run P { lw with drawn:=lw.drawn+n }=AL r2 ey:=by
    have e:=congrArg Prod.fst (h.lone #[]);rwa [Sem.runT_eq] at e
   rw[h1] at hl;cases r2 with
   |ok u=>cases hl
   |error hh0=>
    cases hh0 with
    |panic v=>
     simp only[AL,put] at hl;cases hl;refine⟨_,_,rfl,.inr ⟨w',n+n2,⟨hg.frame.raise _,hg.callers,hg.status⟩,hgd,?_,⟨h.tape,by rw[h.drawn];simp only[];omega,h.grows,h.ok,sN,h.tN⟩,sN,fun gs rest qE ht I d ha=>?_⟩⟩
     .exact hgr
     obtain⟨ha,ha2⟩:=wN ha
     have h2:(eu (.plain "send on closed channel"):iN Unit).run P (dn w I (d+n))=.halt (.panic v) (dn w' I (d+n+n2)):=by
      have e:=congrArg Prod.fst (h.many I (d+n) ha2 #[]);rwa [Sem.runT_eq] at e
     unfold mZ
     extract_lets put' zC I9 ready' pick'
     have hr:ready'=ready:=by simp only[ready,ready',e0,e1 gs qE]
     refine(if_neg (Lz I d _ fun c=>?_)).trans ?_
     .simp only[illMade,zC];split
      .rfl
      .rename_i r _;rcases(sG V I d).at_ r with h|⟨h1,o,h2,h3⟩
       .rw[h]
       rw[h1,h2];cases o<;>first|rfl|cases h3
      rfl
     rw[hr,if_neg YG]
     have hp':pick'.run P (dn w I d)=.ok (k,c,ws.getD 0 .closed) (dn w I (d+n)):=by
      have:pick'=pick:=by simp only[pick,pick',hr]
      rw[this];exact hpx (dn w I d) fun i hi=>(ha i hi).symm
     rw[hp',hw1];simp only[hcc,oK,hh2];simp only[h2,qV];rfl
    |_=>cases hl
 .have hw1:ws.getD 0 .closed=.buffer:=by rw[Kb,hw];rfl
  rw[hw1] at hl;cases hsend:c.send with
  |some v=>
   simp only[hsend,put] at hl;cases hl;refine⟨_,_,rfl,.inr ⟨{ w with heap:=w.heap.setIfInBounds r _ },n,hgf ..,hgd,rfl,hb _ _ rfl rfl sN (yf (w:={ lw with drawn:=lw.drawn+n }) cV rfl) (yQ (lw:={ lw with drawn:=lw.drawn+n }) ⟨V.size,V.os,V.out,V.at_,V.old,V.kept⟩ _ _ rfl),?_,fun gs rest qE ht I d ha=>?_⟩⟩
   .intro op hop;simp only[eR,cy,gJ,or_false] at hop;rcases hop with rfl|rfl<;>exact⟨rfl,r,aH,0,eJ hh,by simp[me]⟩
   unfold mZ
   extract_lets put' zC I9 ready' pick'
   have hr:ready'=ready:=by simp only[ready,ready',e0,e1 gs qE]
   refine(if_neg (Lz I d _ fun c=>?_)).trans ?_
   .simp only[illMade,zC];split
    .rfl
    .rename_i r _;rcases(sG V I d).at_ r with h|⟨h1,o,h2,h3⟩
     .rw[h]
     rw[h1,h2];cases o<;>first|rfl|cases h3
    rfl
   rw[hr,if_neg YG]
   have hp':pick'.run P (dn w I d)=.ok (k,c,ws.getD 0 .closed) (dn w I (d+n)):=by
    have:pick'=pick:=by simp only[pick,pick',hr]
    rw[this];exact hpx (dn w I d) fun i hi=>(ha i hi).symm
   rw[hp',hw1];simp only[hcc,oK,hh2];simp only[hsend];rfl
  |none=>
   simp only[mI YN] at hl;simp only[hsend,put] at hl;cases hl;refine⟨_,_,rfl,.inr ⟨{ w with heap:=w.heap.setIfInBounds r _ },n,hgf ..,hgd,rfl,hb _ _ rfl rfl sN (yf (w:={ lw with drawn:=lw.drawn+n }) cV rfl) (yQ (lw:={ lw with drawn:=lw.drawn+n }) ⟨V.size,V.os,V.out,V.at_,V.old,V.kept⟩ _ _ rfl),?_,fun gs rest qE ht I d ha=>?_⟩⟩
   .intro op hop;simp only[eR,cy,gJ,or_false] at hop;rcases hop with rfl|rfl<;>exact⟨rfl,r,acy,cap,eJ hh,by simp[me]⟩
   unfold mZ
   extract_lets put' zC I9 ready' pick'
   have hr:ready'=ready:=by simp only[ready,ready',e0,e1 gs qE]
   refine(if_neg (Lz I d _ fun c=>?_)).trans ?_
   .simp only[illMade,zC];split
    .rfl
    .rename_i r _;rcases(sG V I d).at_ r with h|⟨h1,o,h2,h3⟩
     .rw[h]
     rw[h1,h2];cases o<;>first|rfl|cases h3
    rfl
   rw[hr,if_neg YG]
   have hp':pick'.run P (dn w I d)=.ok (k,c,ws.getD 0 .closed) (dn w I (d+n)):=by
    have:pick'=pick:=by simp only[pick,pick',hr]
    rw[this];exact hpx (dn w I d) fun i hi=>(ha i hi).symm
   rw[hp',hw1];simp only[hcc,oK,hh2];simp only[hsend,mI qE];rfl
 have hw1:ws.getD 0 .closed=.closed:=by rw[Kb,hw];rfl
 rw[hw1] at hl;dsimp only at hl;simp only[put] at hl;cases hl;refine⟨_,_,rfl,.inr ⟨w,n,hgf ..,hgd,rfl,hb _ _ rfl rfl rfl cV ⟨V.size,V.os,V.out,V.at_,V.old,V.kept⟩,?_,fun gs rest qE ht I d ha=>?_⟩⟩
 .intro op hop;simp only[eR,cy,gJ,or_false] at hop;subst hop;exact⟨rfl,r,0,0,eJ hh,by simp[me]⟩
 unfold mZ
 extract_lets put' zC I9 ready' pick'
 have hr:ready'=ready:=by simp only[ready,ready',e0,e1 gs qE]
 refine(if_neg (Lz I d _ fun c=>?_)).trans ?_
 .simp only[illMade,zC];split
  .rfl
  .rename_i r _;rcases(sG V I d).at_ r with h|⟨h1,o,h2,h3⟩
   .rw[h]
   rw[h1,h2];cases o<;>first|rfl|cases h3
  rfl
 rw[hr,if_neg YG]
 have hp':pick'.run P (dn w I d)=.ok (k,c,ws.getD 0 .closed) (dn w I (d+n)):=by
  have:pick'=pick:=by simp only[pick,pick',hr]
  rw[this];exact hpx (dn w I d) fun i hi=>(ha i hi).symm
 rw[hp',hw1];simp only[hcc,oK,hh2];rfl
end
def xD(B:Nat)(aM:Array MemOp):Prop:=∀op∈aM,op.g=0/\op.act.low B/\op.act≠.mark .disable/\op.act≠.mark .enable
def xD.app{B:Nat}{a b:Array MemOp}(ha:xD B a)(hb:xD B b):xD B (a++b):=fun op h=>(GZ.1 h).elim (ha op) (hb op)
def tU{B:Nat}{es:Array gq}(h:∀e∈es,Bu B e)(fn:dU)(pos:String):xD B (iC 0 fn pos es):=fun op hop=>by
 obtain⟨e,he,rfl⟩:=BF hop;obtain⟨loc,wr,sy⟩:=e;refine⟨rfl,?_⟩;rcases h _ he with⟨a,rfl,ha⟩|⟨r,rfl,hr⟩|rfl|rfl|⟨f,rfl⟩
 .exact⟨ha,by simp[fT],by simp[fT]⟩
 .cases wr<;>cases sy<;>exact⟨hr,by simp[fT],by simp[fT]⟩
 .exact⟨trivial,by simp[fT],by simp[fT]⟩
 .exact⟨trivial,by simp[fT],by simp[fT]⟩
 exact⟨trivial,by simp[fT],by simp[fT]⟩
def NA{B B':Nat}(hB:B<=B'){aM:Array MemOp}(h:∀op∈aM,VJ B op):xD B' aM:=fun op hop=>by
 obtain⟨hg,r,n,m,hr,ho⟩:=h op hop;refine⟨hg,?_⟩;rcases ho with e|e|e|e|e<;>rw[e]<;>exact⟨bD hr hB,sN,sN⟩
def zQ{B:Nat}{aM:Array MemOp}(h:xD B aM)(t:Trace)(g:Nat):Deaf (t++aM) g=Deaf t g:=by
 obtain⟨l⟩:=aM;rw[Deaf_append]
 have:∀(l:List MemOp),(∀op∈l,op.act≠.mark .disable/\op.act≠.mark .enable)->∀d,l.foldl (deafStep g) d=d:=by
  intro l
  induction l with
  |nil=>intro _ d;rfl
  |cons y l ih=>
   intro hl d;rw[List.foldl_cons]
   have:deafStep g d y=d:=by
    have hy:=hl y (dr ..);unfold deafStep;split
    .rename_i e;exact absurd e hy.1
    .rename_i e;exact absurd e hy.2
    rfl
   rw[this];exact ih (fun op hop=>hl op (bY _ hop)) d
 exact this l (fun op hop=>⟨(h op (by simpa using hop)).2.2.1,(h op (by simpa using hop)).2.2.2⟩) _
section
variable{P:aL}
theorem runT_crowd_comm{gs:Array aC}{w w':ak}{sl:Option (Nat × Nat)}{i:Nat}{g g':aC}{cs:Array m7}{b:Bool}{sh:CommShape}{es:Array gq}(hi:gs[i]?=some g)(h:fe P (i==0) g w=.comm g' cs b sh w' es) :
  runT P (rh gs w sl) i=((mZ P { timers:=#[],alone:=none,slice:=sl } (gs.setIfInBounds i { (default:aC) with status:=.finished }) i g' cs b sh w').1,
   iC i g.frame.fn g.frame.place es++(mZ P { timers:=#[],alone:=none,slice:=sl } (gs.setIfInBounds i { (default:aC) with status:=.finished }) i g' cs b sh w').2):=by
 obtain⟨hlt,rfl⟩:=ah.1 hi;have hsw:=swapAt_of_lt hlt { (default:aC) with status:=.finished };have uN:gs.set i { (default:aC) with status:=.finished }=gs.setIfInBounds i { (default:aC) with status:=.finished }:=by simp[Array.setIfInBounds,hlt]
 show runT P { world:=w,gs:=gs,rest:={ timers:=#[],alone:=none,slice:=sl } } i=_;unfold runT;simp only[hsw,h,GStep.es,uN]
def Idle(gs:Array aC):Prop:=∀(i:Nat) (x:aC),0<i->gs[i]?=some x->x.status=.running\/x.status=.finished
theorem OJ{w:ak}{o:aC}(h:o.status=.running\/o.status=.finished):o.again w=o:=by
 unfold Goroutine.again;rcases h with h|h<;>rw[h]
theorem M8{gs:Array aC}(h:Idle gs)(g g':aC)(w':ak):(gs.map (woken P g g' w')).setIfInBounds 0 g'=gs.setIfInBounds 0 g':=by
 apply Array.ext_getElem?;intro j
 by_cases hj:0=j
 .subst hj;simp only[bA,Array.size_map,if_true]
 .simp only[aB hj,kn];cases hx:gs[j]? with
  |none=>rfl
  |some x=>
   simp only[dJ];unfold woken;split
   .rw[OJ (h j x oN hx)]
   rfl
def rR(P:aL)(g:aC)(W:ak)(g':aC)(W':ak):Prop:=
 g.status=.running/\g.dying=none/\(∃aM,stepT P (xd g W)=(.next (xd g' W'),aM))/\g'.status=.running/\g'.dying=none
theorem oH{a b:aC}{w w':ak}(h:xd a w=xd b w'):a=b/\w=w':=by
 unfold xd at h;injection h with h1 h2 h3
 exact⟨by simpa using h2,h1⟩
theorem Kz(gs:Array aC)(x y:aC):(gs.setIfInBounds 0 x).setIfInBounds 0 y=gs.setIfInBounds 0 y:=by
 apply Array.ext_getElem?;intro j
 by_cases hj:0=j
 .subst hj;simp[bA]
 simp[aB hj]
theorem Ce[uK](T:Quiet P){lw w:ak}{g g':aC}{ey:ak}(hg:Ap g)(cV:dv lw)(V:jo lw w)(h:rR P g lw g' ey) :
  Ap g'/\∃w' k aM,Base lw ey w' k #[]/\xD ey.heap.size aM/\
   ∀I d gs sl,Agree k lw.tape lw.drawn I d->gs[0]?=some g->Idle gs->runT P (rh gs (dn w I d) sl) 0=(.next (rh (gs.setIfInBounds 0 g') (dn w' I (d+k)) sl),aM):=by
 obtain⟨hr,hd,⟨aM,hs⟩,hr',MZ⟩:=h;have AU:=Hg T hg hd cV V;rw[stepT_solo hr,nL] at hs;have F2:(#[g]:Array aC)[0]?=some g:=rfl;cases qE:fe P true g lw with
 |go g1 kI es=>
  rw[qE] at AU;have e:=C_ (P:=P) (gs:=#[g]) (w:=lw) (sl:=none) (i:=0) F2 qE;rw[e] at hs;injection hs with hs1 hs2
  injection hs1 with hs3
  have:(#[g].map (woken P g g1 kI)).setIfInBounds 0 g1 = #[g1]:=sN;rw[this,<-nL] at hs3;obtain⟨rfl,rfl⟩:=oH hs3;rcases AU with hdy|⟨Di,_,w',k,hb,hm⟩
  .obtain⟨_,dd,he,_⟩:=hdy;rw[MZ] at he;cases he
  refine⟨Di,w',k,_,⟨hb.tape,hb.drawn,hb.grows,hb.ok,sN,hb.tN⟩,tU hb.evs g.frame.fn g.frame.place,fun I d gs sl ha h0 hi=>?_⟩;rw[C_ (P:=P) (sl:=sl) (i:=0) h0 (hm I d ha),M8 hi]
 |comm g1 cs b sh kI es=>
  rw[qE] at AU;obtain⟨Di,⟨hgd,aaw⟩,w1,k1,hb,hm⟩:=AU;have e:=runT_crowd_comm (P:=P) (gs:=#[g]) (w:=lw) (sl:=none) (i:=0) F2 qE;rw[e] at hs;have aat:(#[g].setIfInBounds 0 { (default:aC) with status:=.finished }) = #[{ (default:aC) with status:=.finished }]:=sN;rw[aat] at hs;generalize hc:mZ P { timers:=#[],alone:=none,slice:=none } #[{ (default:aC) with status:=.finished }] 0 g1 cs b sh kI=cc at hs;obtain⟨st,more⟩:=cc;injection hs with hs1 hs2
  dsimp only at hs1;subst hs1
  have key:∀gs:Array aC,Idle gs->0<gs.size->lT (gs.setIfInBounds 0 { (default:aC) with status:=.finished }):=by
   intro gs hi h0 x hx;obtain⟨j,hj⟩:=Array.mem_iff_getElem?.1 hx
   by_cases e0:0=j
   .subst e0;simp only[bA,if_true,h0] at hj;cases hj;simp
   rw[aB e0] at hj;rcases hi j x oN hj with h|h<;>rw[h]<;>simp
  have YN:({ (default:aC) with status:=.finished }:aC).status≠.blocked:=sN;obtain⟨g2,ZQ,e2,EP⟩:=Mf T YN (rest0:={ timers:=#[],alone:=none,slice:=none }) rfl hb.ok hb.tN Di hgd aaw hc;have e3:xd g' ey=xd g2 ZQ:=e2;obtain⟨rfl,rfl⟩:=oH e3;rcases EP with hblk|⟨w2,k2,hcr⟩
  .rw[hr'] at hblk;cases hblk
  refine⟨hcr.gok,w2,k1+k2,iC 0 g.frame.fn g.frame.place es++more,⟨hcr.base.tape.trans hb.tape,by rw[hcr.base.drawn,hb.drawn];omega,aG hb.grows hcr.base.grows,hcr.base.ok,sN,hcr.base.tN⟩,
   (tU (fun e he=>(hb.evs e he).mono hcr.base.grows) _ _).app (NA hcr.base.grows hcr.lists),fun I d gs sl ha h0 hi=>?_⟩
  obtain⟨ha1,ha2⟩:=wN ha;have hlt:0<gs.size:=(ah.1 h0).1;have h2:=hcr.many (gs.setIfInBounds 0 { (default:aC) with status:=.finished }) { timers:=#[],alone:=none,slice:=sl } (key gs hi hlt) rfl I (d+k1) (by rw[hb.tape,hb.drawn];exact ha2);rw[runT_crowd_comm (P:=P) (sl:=sl) (i:=0) h0 (hm I d ha1),h2,Kz,qV];rfl
 |ended o kI es=>
  have e:=runT_many_ended (P:=P) (gs:=#[g]) (w:=lw) (sl:=none) (i:=0) F2 qE;rw[e] at hs;injection hs with hs1 hs2
  cases hs1
 |spawn g1 c kI es=>
  have e:=runT_crowd_spawn (P:=P) (gs:=#[g]) (w:=lw) (sl:=none) (i:=0) F2 qE;rw[e] at hs;injection hs with hs1 hs2
  injection hs1 with hs3
  have:=congrArg (fun m:Machine=>m.gs.size) hs3;simp[rh,xd] at this
 |_=>rw[qE] at AU;exact AU.elim
end
def Ext(W:ak)(I:Nat->dH->Nat):Prop:=∀i,i<W.drawn->I i=W.tape i
inductive Bar(P:aL)(Stop:aC->ak->Prop):aC->ak->Prop
 |stop {g:aC} {W:ak}:Stop g W->Bar P Stop g W
 |step {g:aC} {W:ak}:(∀I,Ext W I->∃g' W',rR P g (dn W I W.drawn) g' W')->
   (∀I,Ext W I->∀g' W',rR P g (dn W I W.drawn) g' W'->Bar P Stop g' W')->Bar P Stop g W
section
variable{P:aL}
abbrev Pu:uK:=⟨fun _=>.none⟩
theorem Hc(W:ak):@jo Pu W W:=@jo.mk Pu _ _ rfl rfl rfl (fun _=>.inl rfl) (fun _ _ h=>by cases h) (fun _ _ h=>by cases h)
theorem rA(T:Quiet P){g g':aC}{lw ey:ak}(hg:Ap g)(cV:dv lw)(h:rR P g lw g' ey) :
  Ap g'/\dv ey/\ey.tape=lw.tape/\lw.drawn<=ey.drawn/\lw.heap.size<=ey.heap.size/\
   ∀I d,Agree (ey.drawn-lw.drawn) lw.tape lw.drawn I d->rR P g (dn lw I d) g' (dn ey I (d+(ey.drawn-lw.drawn))):=by
 letI:=Pu
 obtain⟨FY,w',k,aM,hb,Gn,hm⟩:=Ce T hg cV (Hc lw) h;obtain⟨hr,hd,⟨alQ,hs⟩,hr',MZ⟩:=h
 have YQ:Idle #[g]:=by
  intro i x h1 h2;have:i<1:=by simpa using (ah.1 h2).1
  omega
 have e0:=hm lw.tape lw.drawn #[g] none (fun _ _=>rfl) rfl YQ;have e1:(#[g].setIfInBounds 0 g') = #[g']:=sN;have hk:ey.drawn-lw.drawn=k:=by rw[hb.drawn];omega
 have e2:ey=dn w' lw.tape (lw.drawn+k):=by
  rw[stepT_solo hr,nL] at hs;have e3:dn lw lw.tape lw.drawn=lw:=rfl;rw[e3,hs] at e0;injection e0 with e4 e5
  injection e4 with e6
  rw[e1,<-nL] at e6;exact(oH e6).2
 refine⟨FY,hb.ok,hb.tape,by rw[hb.drawn];omega,hb.grows,fun I d ha=>⟨hr,hd,⟨aM,?_⟩,hr',MZ⟩⟩;rw[hk] at ha ⊢;rw[stepT_solo hr,nL,hm I d #[g] none ha rfl YQ,e1,<-nL,e2];rfl
theorem D6:∀(n:Nat) {g g':aC} {W W':ak},g.dyingOn P->g'.dying=none->runN P n (xd g W)≠.next (xd g' W')
 |0,g,g',W,W',h,hd=>by
  intro e;simp only[runN] at e;injection e with e
  obtain⟨rfl,_⟩:=oH e;obtain⟨_,d,MZ,_⟩:=h;rw[hd] at MZ;cases MZ
 |n+1,g,g',W,W',h,hd=>by
  rcases step_dyingOn (w:=W) h with⟨g1,w1,hs,h'⟩|⟨o,w1,hs,_⟩
  .have hs':nO P (xd g W)=.next (xd g1 w1):=hs
   simp only[runN,hs'];exact D6 n h' hd
  have hs':nO P (xd g W)=.ended o w1:=hs;simp only[runN,hs'];intro e;cases e
theorem Qs{g:aC}{W:ak}(h:g.status=.finished\/g.status=.blocked):∃o w',nO P (xd g W)=.ended o w':=by
 obtain⟨fr,cs,st,dy,off⟩:=g;simp only at h;rcases h with rfl|rfl
 .obtain⟨o',w',he,ho⟩:=endWith_ended W 2 (bytes "fatal error: no goroutines (main called runtime.Goexit) - deadlock!\n") (.fatal "no goroutines (main called runtime.Goexit) - deadlock!");refine⟨o',w',?_⟩;simp[nO,stepT,move,ask,askOn,xd,runnable_eq,due,ahead,Goroutine.canRun,List.range_succ,pure];rw[he]
 obtain⟨o',w',he,ho⟩:=endWith_ended W 2 (bytes "fatal error: all goroutines are asleep - deadlock!\n") (.fatal "all goroutines are asleep - deadlock!");refine⟨o',w',?_⟩;simp[nO,stepT,move,ask,askOn,xd,runnable_eq,due,ahead,Goroutine.canRun,List.range_succ,pure];rw[he]
theorem Hm{n:Nat}{g g':aC}{W W':ak}(h:g.status=.finished\/g.status=.blocked)(hr:g'.status=.running):runN P n (xd g W)≠.next (xd g' W'):=by
 cases n with
 |zero=>
  intro e;simp only[runN] at e;injection e with e
  obtain⟨rfl,_⟩:=oH e;rw[hr] at h;rcases h with h|h<;>cases h
 |succ n=>
  obtain⟨o,w',e⟩:=Qs (P:=P) (W:=W) h;simp only[runN,e];intro e;cases e
theorem Jm(T:Quiet P){n:Nat}{g g':aC}{W W':ak}(hg:Ap g)(cV:dv W)(hr:g.status=.running)(hd:g.dying=none)(hr':g'.status=.running)(MZ:g'.dying=none)
  (h:runN P (n+1) (xd g W)=.next (xd g' W')):∃g1 W1,rR P g W g1 W1:=by
 letI:=Pu
 have AU:=Hg T hg hd cV (Hc W);have F2:(#[g]:Array aC)[0]?=some g:=rfl;have hst:stepT P (xd g W)=runT P (rh #[g] W none) 0:=by rw[stepT_solo hr,nL]
 simp only[runN,nO,hst] at h;cases qE:fe P true g W with
 |go g1 W1 es=>
  rw[qE] at AU;have e:=C_ (P:=P) (gs:=#[g]) (w:=W) (sl:=none) (i:=0) F2 qE;have e1:(#[g].map (woken P g g1 W1)).setIfInBounds 0 g1 = #[g1]:=sN;have e:runT P (rh #[g] W none) 0=(.next (xd g1 W1),iC 0 g.frame.fn g.frame.place es):=e.trans (by rw[e1,<-nL]);rw[e] at h;dsimp only at h;rcases AU with hdy|⟨Di,hgd,_⟩
  .exact absurd h (D6 n hdy MZ)
  rcases Di.status with hs|hs
  .exact⟨g1,W1,hr,hd,⟨_,hst.trans e⟩,hs,hgd⟩
  exact absurd h (Hm (.inl hs) hr')
 |comm g1 cs b sh W1 es=>
  rw[qE] at AU;obtain⟨Di,⟨hgd,aaw⟩,w1,k1,hb,hm⟩:=AU;have e:=runT_crowd_comm (P:=P) (gs:=#[g]) (w:=W) (sl:=none) (i:=0) F2 qE;have aat:(#[g].setIfInBounds 0 { (default:aC) with status:=.finished }) = #[{ (default:aC) with status:=.finished }]:=sN;rw[aat] at e;generalize hc:mZ P { timers:=#[],alone:=none,slice:=none } #[{ (default:aC) with status:=.finished }] 0 g1 cs b sh W1=cc at e;obtain⟨st,more⟩:=cc;rw[e] at h;dsimp only at h e;cases st with
  |ended o w2=>cases h
  |next m1=>
   dsimp only at h;obtain⟨g2,W2,e2,EP⟩:=Mf T (d0:={ (default:aC) with status:=.finished }) sN (rest0:={ timers:=#[],alone:=none,slice:=none }) rfl hb.ok hb.tN Di hgd aaw hc;have e3:m1=xd g2 W2:=e2;subst e3;rcases EP with hblk|⟨w2,k2,hcr⟩
   .exact absurd h (Hm (.inr hblk) hr')
   exact⟨g2,W2,hr,hd,⟨_,hst.trans e⟩,hcr.run,hcr.dy⟩
 |spawn g1 c W1 es=>
  have e:=runT_crowd_spawn (P:=P) (gs:=#[g]) (w:=W) (sl:=none) (i:=0) F2 qE;rw[e] at h;dsimp only at h
  have h2:runNT P n (rh ((#[g].setIfInBounds 0 g1).push c) W1 none) #[]=(.next (xd g' W'),(runNT P n (rh ((#[g].setIfInBounds 0 g1).push c) W1 none) #[]).2):=by
   have:=runNT_fst P n (rh ((#[g].setIfInBounds 0 g1).push c) W1 none) #[];rw[h] at this;exact Prod.ext this rfl
  have:=runNT_size P n _ _ _ _ h2;simp[rh,xd] at this
 |ended o W1 es=>
  have e:=runT_many_ended (P:=P) (gs:=#[g]) (w:=W) (sl:=none) (i:=0) F2 qE;rw[e] at h;cases h
 |_=>rw[qE] at AU;exact AU.elim
theorem least{p:Nat->Prop}:∀n,p n->∃m,p m/\∀j,j<m->¬p j:=by
 intro n
 induction n using Nat.strongRecOn with
 |ind n ih=>
  intro hn
  by_cases h:∃m,m<n/\p m
  .obtain⟨m,h1,h2⟩:=h;exact ih m h1 h2
  exact⟨n,hn,fun j hj hp=>h ⟨j,hj,hp⟩⟩
structure Bad(P:aL)(Stop:aC->ak->Prop)(x:aC × ak):Prop where
 no:¬Bar P Stop x.1 x.2
 gok:Ap x.1
 ok:dv x.2
 run:x.1.status=.running
 dy:x.1.dying=none
theorem CG(T:Quiet P){Stop:aC->ak->Prop}(hS:∀g W I d,Stop g (dn W I d)->Stop g W)(hSr:∀g W,Stop g W->g.status=.running/\g.dying=none)
  {g:aC} {W:ak} (hg:Ap g) (cV:dv W) (hr:g.status=.running) (hd:g.dying=none)
  (H:∀I,Ext W I->∃n g' W',runN P n (xd g (dn W I W.drawn))=.next (xd g' W')/\Stop g' W'):Bar P Stop g W:=by
 classical
 refine fh fun hno=>?_;let St:={ x:aC × ak // Bad P Stop x }
 let R:St->St->Prop:=fun x y=>∃I,Ext x.1.2 I/\rR P x.1.1 (dn x.1.2 I x.1.2.drawn) y.1.1 y.1.2;let FV:St->Prop:=fun x=>∃I,Ext x.1.2 I/\∀g' W',¬rR P x.1.1 (dn x.1.2 I x.1.2.drawn) g' W'
 have next:∀x:St,¬FV x->∃y,R x y:=by
  rintro⟨⟨g,W⟩,hb⟩ hnd;refine fh fun hny=>hb.no (.step (fun I hτ=>?_) fun I hτ g' W' hl=>?_)
  .exact fh fun h=>hnd ⟨I,hτ,fun g' W' hl=>h ⟨g',W',hl⟩⟩
  refine fh fun Jv=>hny ?_;obtain⟨h1,h2,_⟩:=rA T hb.gok (lw:=dn W I W.drawn) hb.ok hl;exact⟨⟨(g',W'),Jv,h1,h2,hl.2.2.2.1,hl.2.2.2.2⟩,I,hτ,hl⟩
 let f:St->St:=fun x=>if h:FV x then x else Classical.choose (next x h)
 have hf:∀x,¬FV x->R x (f x):=fun x h=>by
  simp only[f,dif_neg h];exact Classical.choose_spec (next x h)
 let seq:Nat->St:=fun n=>Nat.rec ⟨(g,W),hno,hg,cV,hr,hd⟩ (fun _ x=>f x) n
 have PO:∀x y:St,R x y->x.1.2.drawn<=y.1.2.drawn/\(∀p,p<x.1.2.drawn->y.1.2.tape p=x.1.2.tape p)/\
   ∀T',(∀p,p<y.1.2.drawn->T' p=y.1.2.tape p)->rR P x.1.1 (dn x.1.2 T' x.1.2.drawn) y.1.1 (dn y.1.2 T' y.1.2.drawn):=by
  rintro x y ⟨I,hτ,hl⟩;obtain⟨_,_,h3,h4,_,h6⟩:=rA T x.2.gok (lw:=dn x.1.2 I x.1.2.drawn) x.2.ok hl;simp only[zk,qb] at h3 h4 h6;refine⟨h4,fun p hp=>by rw[h3];exact hτ p hp,fun T' hT'=>?_⟩;have:=h6 T' x.1.2.drawn fun i hi=>by rw[hT' _ oN,h3]
  rwa [Nat.add_sub_cancel' h4] at this
 have walk:∀(T':Nat->dH->Nat) (n i:Nat),(∀j,j<n->R (seq (i+j)) (seq (i+j+1))/\∀p,p<(seq (i+j+1)).1.2.drawn->T' p=(seq (i+j+1)).1.2.tape p)->
   runN P n (xd (seq i).1.1 (dn (seq i).1.2 T' (seq i).1.2.drawn))=.next (xd (seq (i+n)).1.1 (dn (seq (i+n)).1.2 T' (seq (i+n)).1.2.drawn)):=by
  intro T' n
  induction n with
  |zero=>intro i _;rfl
  |succ n ih=>
   intro i h;obtain⟨h1,h2⟩:=h 0 oN;obtain⟨_,_,hT⟩:=PO _ _ h1;obtain⟨_,_,⟨aM,hs⟩,_⟩:=hT T' h2
   have hs':nO P (xd (seq i).1.1 (dn (seq i).1.2 T' (seq i).1.2.drawn))=.next (xd (seq (i+1)).1.1 (dn (seq (i+1)).1.2 T' (seq (i+1)).1.2.drawn)):=by
    rw[nO];exact congrArg Prod.fst hs
   simp only[runN,hs']
   have:=ih (i+1) fun j hj=>by
    have:=h (j+1) oN;rwa [show i+(j+1)=i+1+j by omega] at this
   rw[this,show i+1+n=i+(n+1) by omega]
 have mono:∀i n,(∀j,j<n->R (seq (i+j)) (seq (i+j+1)))->(seq i).1.2.drawn<=(seq (i+n)).1.2.drawn/\∀p,p<(seq i).1.2.drawn->(seq (i+n)).1.2.tape p=(seq i).1.2.tape p:=by
  intro i n
  induction n with
  |zero=>intro _;exact⟨aJ _,fun _ _=>rfl⟩
  |succ n ih=>
   intro h;obtain⟨h1,h2⟩:=ih fun j hj=>h j oN;obtain⟨h3,h4,_⟩:=PO _ _ (h n oN);exact⟨aG h1 h3,fun p hp=>(h4 p (bD hp h1)).trans (h2 p hp)⟩
 have hseq:∀j,¬FV (seq j)->R (seq j) (seq (j+1)):=fun j h=>hf _ h;have TK:∀n T',¬Stop (seq n).1.1 (dn (seq n).1.2 T' (seq n).1.2.drawn):=fun n T' h=>(seq n).2.no (.stop (hS _ _ _ _ h));have aen:∀T',(∀p,p<W.drawn->T' p=W.tape p)->∃n g' W',runN P n (xd (seq 0).1.1 (dn (seq 0).1.2 T' (seq 0).1.2.drawn))=.next (xd g' W')/\Stop g' W':=fun T' h=>H T' h
 by_cases PN:∃n,FV (seq n)
 .obtain⟨n0,YN⟩:=PN;obtain⟨N,hN,hlt⟩:=least (p:=fun n=>FV (seq n)) n0 YN;obtain⟨I,hτ,hnl⟩:=hN;have hR:∀j,j<N->R (seq j) (seq (j+1)):=fun j hj=>hseq j (hlt j hj)
  have agree:∀j,j<=N->∀p,p<(seq j).1.2.drawn->I p=(seq j).1.2.tape p:=by
   intro j hj p hp;have:=mono j (N-j) fun i hi=>hR (j+i) oN;rw[Nat.add_sub_cancel' hj] at this;rw[hτ p (bD hp this.1),this.2 p hp]
  have pre:∀n,n<=N->runN P n (xd (seq 0).1.1 (dn (seq 0).1.2 I (seq 0).1.2.drawn))=.next (xd (seq n).1.1 (dn (seq n).1.2 I (seq n).1.2.drawn)):=by
   intro n hn
   have:=walk I n 0 fun j hj=>by
    rw[cO];exact⟨hR j oN,agree (j+1) oN⟩
   rwa [cO] at this
  obtain⟨n,g',W',hrun,Ch⟩:=aen I (agree 0 oN);rcases Nat.lt_or_ge N n with CW|hle
  .obtain⟨m,rfl⟩:∃m,n=N+(m+1):=⟨n-N-1,oN⟩
   have ya:∀(a b:Nat) (x y:Machine),runN P a x=.next y->runN P (a+b) x=runN P b y:=by
    intro a
    induction a with
    |zero=>intro b x y h;simp only[runN] at h;injection h with h;rw[h,cO]
    |succ a ih=>
     intro b x y h;rw[show a+1+b=(a+b)+1 by omega];simp only[runN] at h ⊢;cases hs:nO P x with
     |next x'=>rw[hs] at h;simp only at h ⊢;exact ih b x' y h
     |ended o w=>rw[hs] at h;cases h
   rw[ya N (m+1) _ _ (pre N (aJ _))] at hrun;obtain⟨hr',MZ⟩:=hSr _ _ Ch;obtain⟨g1,W1,hl⟩:=Jm T (seq N).2.gok (W:=dn (seq N).1.2 I (seq N).1.2.drawn) (seq N).2.ok (seq N).2.run (seq N).2.dy hr' MZ hrun;exact hnl _ _ hl
  rw[pre n hle] at hrun;injection hrun with hrun
  obtain⟨h1,h2⟩:=oH hrun;rw[<-h1,<-h2] at Ch;exact TK n I Ch
 have hnd:∀n,¬FV (seq n):=fun n h=>PN ⟨n,h⟩;have hR:∀j,R (seq j) (seq (j+1)):=fun j=>hseq j (hnd j)
 have coh:∀i j p,i<=j->p<(seq i).1.2.drawn->(seq j).1.2.tape p=(seq i).1.2.tape p:=fun i j p Us hp=>by
  have:=(mono i (j-i) fun k _=>hR _).2 p hp;rwa [Nat.add_sub_cancel' Us] at this
 let I:Nat->dH->Nat:=fun p=>if h:∃j,p<(seq j).1.2.drawn then(seq (Classical.choose h)).1.2.tape p else fun _=>0
 have agree:∀j p,p<(seq j).1.2.drawn->I p=(seq j).1.2.tape p:=by
  intro j p hp;have hex:∃j,p<(seq j).1.2.drawn:=⟨j,hp⟩
  have hc:=Classical.choose_spec hex;simp only[I,dif_pos hex];rcases Nat.le_total (Classical.choose hex) j with h|h
  .exact(coh _ _ p h hc).symm
  exact coh _ _ p h hp
 obtain⟨n,g',W',hrun,Ch⟩:=aen I (agree 0)
 have:=walk I n 0 fun j hj=>by
  rw[cO];exact⟨hR j,agree (j+1)⟩
 rw[cO] at this;rw[this] at hrun;injection hrun with hrun
 obtain⟨h1,h2⟩:=oH hrun;rw[<-h1,<-h2] at Ch;exact TK n I Ch
end
open Go.ConcN (sumTo upd sumTo_upd upd_ne upd_same)
abbrev MH:=Past (fun _=>False)
structure Beside(P:aL)(gs:Array aC)(g:aC)(w:ak)(t:Trace)(q:Nat->Nat):Prop where
 zero:gs[0]?=some g
 old:Leavers P t gs q
 past:MH w.heap.size t
def qP(P:aL)(Q:aC->ak->Prop)(g:aC)(w:ak):Prop:=
 ∀(I:Nat->dH->Nat) (d:Nat) (gs:Array aC) (sl:Option (Nat × Nat)) (t:Trace) (q:Nat->Nat),Beside P gs g w t q->
  ∃(N:Nat) (gs':Array aC) (g':aC) (w':ak) (d':Nat) (sl':Option (Nat × Nat)) (t':Trace) (q':Nat->Nat),
   runNT P N (rh gs (dn w I d) sl) t=(.next (rh gs' (dn w' I d') sl'),t')/\Beside P gs' g' w' t' q'/\Q g' w'
section
variable{P:aL}{Q Q':aC->ak->Prop}{g:aC}{w:ak}
theorem runNT_add(P:aL):∀(a b:Nat) (x y:Machine) (t u:Trace),runNT P a x t=(.next y,u)->runNT P (a+b) x t=runNT P b y u
 |0,b,x,y,t,u,h=>by
  simp only[runNT] at h;injection h with h1 h2
  injection h1 with h1
  rw[h1,h2,cO]
 |a+1,b,x,y,t,u,h=>by
  rw[show a+1+b=(a+b)+1 by omega];simp only[runNT] at h ⊢;generalize stepT P x=s at h;obtain⟨r,aM⟩:=s;cases r with
  |next x'=>exact runNT_add P a b x' y _ u h
  |ended o w=>cases h
theorem qP.here(h:Q g w):qP P Q g w:=fun I d gs sl t q hb=>⟨0,gs,g,w,d,sl,t,q,rfl,hb,h⟩
theorem qP.bind(h:qP P Q g w)(k:∀g' w',Q g' w'->qP P Q' g' w'):qP P Q' g w:=fun I d gs sl t q hb=>by
 obtain⟨N,gs1,g1,w1,d1,DI,t1,q1,hr1,hb1,hq1⟩:=h I d gs sl t q hb;obtain⟨M,gs2,g2,w2,d2,Zs,t2,q2,hr2,hb2,Xq⟩:=k g1 w1 hq1 I d1 gs1 DI t1 q1 hb1;exact⟨N+M,gs2,g2,w2,d2,Zs,t2,q2,by rw[runNT_add P N M _ _ _ _ hr1,hr2],hb2,Xq⟩
theorem qP.mono(h:qP P Q g w)(k:∀g' w',Q g' w'->Q' g' w'):qP P Q' g w:=h.bind fun g' w' hq=>.here (k g' w' hq)
theorem Jn{t:Trace}{gs:Array aC}{q:Nat->Nat}(h:Leavers P t gs q):Idle gs:=fun i x hi hx=>(h.old i x hi hx).status
theorem KT{B B':Nat}{t:Trace}{aM:Array MemOp}(h:MH B t)(hB:B<=B')(ho:xD B' aM):MH B' (t++aM):=
 (h.mono hB).app0 (fun op hop=>(ho op hop).1) (fun _ _ _ _ hf=>hf.elim) (zQ ho t 0) fun op hop=>(ho op hop).2.1
theorem slip{gs:Array aC}{g:aC}{w:ak}{t:Trace}{q:Nat->Nat}(hb:Beside P gs g w t q)(hrun:g.status=.running){i:Nat}{x:aC}(jS:0<i)(hi:gs[i]?=some x)(hx:x.status=.running)(I:Nat->dH->Nat)(d:Nat)(sl:Option (Nat × Nat)) :
  ∃gs' aM q',runT P (rh gs (dn w I d) sl) i=(.next (rh gs' (dn w I d) sl),aM)/\Beside P gs' g w (t++aM) q'/\gs'.size=gs.size/\sumTo gs.size q'<sumTo gs.size q:=by
 have hq:=hb.old.old i x jS hi;have hi0:(i==0)=false:=sP;have hlt:i<gs.size:=(ah.1 hi).1;cases Z_:q i with
 |zero=>rw[Z_] at hq;rw[hq.1] at hx;cases hx
 |succ k=>
  rw[Z_] at hq;rcases hq with⟨hf,_⟩|⟨_,g',es,hm,Z5,hq'⟩
  .rw[hf] at hx;cases hx
  have jR:=C_ (P:=P) (sl:=sl) (i:=i) hi (by rw[hi0];exact Z5 (dn w I d))
  have agx:sumTo gs.size (upd q i k)+(k+1)=sumTo gs.size q+k:=by
   have:=sumTo_upd q k id hlt;simpa [Z_] using this
  refine⟨_,_,upd q i k,jR,⟨?_,⟨fun j y hj hy=>?_,fun j hj=>?_⟩,hb.past.mute oN hm⟩,sN,oN⟩
  .have hne:i≠0:=oN;rw[aB hne,kn,hb.zero];simp[woken_run hrun]
  .by_cases XA:i=j
   .subst XA;rw[bg (by simpa using hlt)] at hy;obtain rfl:=a7 hy;rw[upd_same,Deaf_own];exact hq'
   rw[aB XA,kn] at hy;obtain⟨z,hz,rfl⟩:=eH.1 hy;have hqj:=hb.old.old j z hj hz;rw[woken_quitsD hqj,upd_ne q k (Ne.symm XA),Deaf_other t XA _ (fun op hop=>by obtain⟨e,_,rfl⟩:=BF hop;rfl)];exact hqj
  rw[Deaf_other t (g':=i) (by simp at hj;omega) _ (fun op hop=>by obtain⟨e,_,rfl⟩:=BF hop;rfl)];exact hb.old.above j (by simpa using hj)
theorem Ak{gs:Array aC}{g:aC}{w:ak}{t:Trace}{q:Nat->Nat}(hb:Beside P gs g w t q)(hrun:g.status=.running):∀x∈gs,awake x:=by
 intro x hx;obtain⟨i,hi,rfl⟩:=Array.mem_iff_getElem.1 hx;rcases eX i with rfl|jS
 .have:gs[0]=g:=by simpa [aO hi] using hb.zero
  rw[this];exact awake_of (.inl hrun)
 exact awake_of ((hb.old.old i _ jS (aO hi)).status.elim .inl fun x=>.inr (.inr x))
theorem qP.acm(hrun:g.status=.running)
  (h:∀(I:Nat->dH->Nat) (d:Nat) (gs:Array aC) (sl:Option (Nat × Nat)),gs[0]?=some g->Idle gs->
   ∃g' w' k aM,runT P (rh gs (dn w I d) sl) 0=(.next (rh (gs.setIfInBounds 0 g') (dn w' I k) sl),aM)/\xD w'.heap.size aM/\w.heap.size<=w'.heap.size/\qP P Q g' w'):qP P Q g w:=by
 intro I d gs sl t q hb;generalize hM:sumTo gs.size q=M
 induction M using Nat.strongRecOn generalizing d gs sl t q with
 |ind M ih=>
  obtain⟨i,x,d1,DI,hi,hx,hst⟩:=crowd_pick (P:=P) (w:=dn w I d) (sl:=sl) (Ak hb hrun) ⟨0,g,hb.zero,hrun⟩;have ew:(dn w I d).at d1=dn w I d1:=rfl;rw[ew] at hst;rcases eX i with rfl|jS
  .obtain⟨g',w',k,aM,hr,ho,hs,hk⟩:=h I d1 gs DI hb.zero (Jn hb.old)
   have hb':Beside P (gs.setIfInBounds 0 g') g' w' (t++aM) q:=by
    have hlt:0<gs.size:=(ah.1 hb.zero).1;refine⟨by simp[hlt],⟨fun j y hj hy=>?_,fun j hj=>?_⟩,KT hb.past hs ho⟩
    .have hne:0≠j:=oN;rw[aB hne] at hy;rw[zQ ho];exact hb.old.old j y hj hy
    rw[zQ ho];exact hb.old.above j (by simpa using hj)
   obtain⟨N,gs2,g2,w2,d2,Zs,t2,q2,hr2,hb2,Xq⟩:=hk I k (gs.setIfInBounds 0 g') DI (t++aM) q hb';exact⟨N+1,gs2,g2,w2,d2,Zs,t2,q2,by simp only[runNT,hst,hr];exact hr2,hb2,Xq⟩
  obtain⟨gs',aM,q',hr,hb',hsz,hlt⟩:=slip hb hrun jS hi hx I d1 DI;obtain⟨N,gs2,g2,w2,d2,Zs,t2,q2,hr2,hb2,Xq⟩:=ih (sumTo gs'.size q') (by rw[hsz,<-hM];exact hlt) d1 gs' DI (t++aM) q' hb' rfl;exact⟨N+1,gs2,g2,w2,d2,Zs,t2,q2,by simp only[runNT,hst,hr];exact hr2,hb2,Xq⟩
theorem IY[uK](T:Quiet P){Stop:aC->ak->Prop}{g:aC}{W:ak}(h:Bar P Stop g W):Ap g->dv W->∀w,jo W w->
  qP P (fun g' w'=>∃W',Stop g' W'/\jo W' w'/\Ap g'/\dv W'/\W.heap.size<=W'.heap.size) g w:=by
 induction h with
 |stop hs=>exact fun hg cV w V=>.here ⟨_,hs,V,hg,cV,aJ _⟩
 |@step g W live down ih=>
  intro hg cV w V;obtain⟨_,_,hl0⟩:=live W.tape fun _ _=>rfl;refine .acm hl0.1 fun I d gs sl h0 hi=>?_;let I':Nat->dH->Nat:=fun p=>if p<W.drawn then W.tape p else I (d+(p-W.drawn))
  have N0:Ext W I':=fun i hi=>by simp only[I',if_pos hi]
  obtain⟨g',W',hl⟩:=live I' N0;obtain⟨FY,w',k,aM,hb,ho,hm⟩:=Ce T (lw:=dn W I' W.drawn) hg cV (w:=w) ⟨V.size,V.os,V.out,V.at_,V.old,V.kept⟩ hl
  have ha:Agree k (dn W I' W.drawn).tape (dn W I' W.drawn).drawn I d:=fun i hi=>by
   simp only[zk,qb,I',if_neg (show ¬W.drawn+i<W.drawn by omega),Nat.add_sub_cancel_left]
  have hsz:w'.heap.size=W'.heap.size:=hb.tN.size.symm;have hgr:=hb.grows;simp only[oK] at hgr;refine⟨g',w',d+k,aM,hm I d gs sl ha h0 hi,by rw[hsz];exact ho,by rw[hsz,<-V.size];exact hgr,(ih I' N0 g' W' hl FY hb.ok w' hb.tN).mono ?_⟩;rintro g2 w2 ⟨W2,h1,h2,h3,h4,h5⟩;exact⟨W2,h1,h2,h3,h4,aG hgr h5⟩
end
open Go.ConcN (sumTo upd)
def jg(P:aL)(Q:aC->ak->Prop)(g:aC)(W:ak):Prop:=
 ∀K:uK,Ap g->dv W->∀w,jo W w->qP P (fun g' w'=>∃W',Q g' W'/\jo W' w'/\Ap g'/\dv W'/\W.heap.size<=W'.heap.size) g w
section
variable{P:aL}{Q Q':aC->ak->Prop}{g:aC}{W:ak}
theorem jg.here(h:Q g W):jg P Q g W:=fun K hg cV w V=>.here ⟨W,h,V,hg,cV,aJ _⟩
theorem jg.bind(h:jg P Q g W)(k:∀g' W',W.heap.size<=W'.heap.size->Q g' W'->jg P Q' g' W'):jg P Q' g W:=fun K hg cV w V=>
 (h K hg cV w V).bind fun g' w' ⟨W',hq,V',FY,rY,hs⟩=>(k g' W' hs hq K FY rY w' V').mono fun g2 w2 ⟨W2,h1,h2,h3,h4,h5⟩=>⟨W2,h1,h2,h3,h4,aG hs h5⟩
theorem jg.mono(h:jg P Q g W)(k:∀g' W',W.heap.size<=W'.heap.size->Q g' W'->Q' g' W'):jg P Q' g W:=h.bind fun g' W' hs hq=>.here (k g' W' hs hq)
theorem jg.QW(h:jg P Q g W)(I:Nat->dH->Nat)(d:Nat):jg P Q g (dn W I d):=fun K hg cV w V=>h K hg cV w ⟨V.size,V.os,V.out,V.at_,V.old,V.kept⟩
theorem jg.ofT{I:Nat->dH->Nat}{d:Nat}(h:jg P Q g (dn W I d)):jg P Q g W:=fun K hg cV w V=>h K hg cV w ⟨V.size,V.os,V.out,V.at_,V.old,V.kept⟩
theorem DX(T:Quiet P)(hr:g.status=.running)(hd:g.dying=none)
  (H:∀I,∃n g' W',runN P n (xd g (dn W I 0))=.next (xd g' W')/\Q g' W'/\g'.status=.running/\g'.dying=none) :
  jg P (fun g' W'=>∃I d,Q g' (dn W' I d)) g W:=fun K hg cV w V=>by
 have hb:Bar P (fun g' W'=>(∃I d,Q g' (dn W' I d))/\g'.status=.running/\g'.dying=none) g (dn W W.tape 0):=by
  refine CG T (fun g' W' I d h=>⟨h.1,h.2⟩) (fun g' W' h=>h.2) hg cV hr hd fun I _=>?_;obtain⟨n,g',W',h1,h2,h3,h4⟩:=H I;exact⟨n,g',W',h1,⟨W'.tape,W'.drawn,h2⟩,h3,h4⟩
 refine(IY T hb hg cV w ⟨V.size,V.os,V.out,V.at_,V.old,V.kept⟩).mono ?_;rintro g' w' ⟨W',⟨hq,_⟩,V',FY,rY,hs⟩;exact⟨W',hq,V',FY,rY,hs⟩
theorem BV(T:Quiet P){fr:bT}{cs:List bT}{Q:bT->ak->Prop}
  (H:∀I,∃fr' W',Steps P (lone fr cs (dn W I 0)) (lone fr' cs W')/\Q fr' W') :
  jg P (fun g' W'=>∃fr' I d,g'=G fr' cs/\Q fr' (dn W' I d)) (G fr cs) W:=by
 refine(DX T (Q:=fun g' W'=>∃fr',g'=G fr' cs/\Q fr' W') rfl rfl fun I=>?_).mono fun g' W' _ ⟨I,d,fr',h1,h2⟩=>⟨fr',I,d,h1,h2⟩
 obtain⟨fr',W',⟨n,hn⟩,hq⟩:=H I;exact⟨n,G fr' cs,W',hn,⟨fr',rfl,hq⟩,rfl,rfl⟩
def jE(P:aL)(f:dU)(args:Array aj)(W:ak)(R:aj->ak->Prop):Prop:=
 ∀cs,jg P (fun g' W'=>∃fr v I d,g'=G fr cs/\R v W'/\fr.fn=f/\fr.leaving P (dn W' I d) (.returned v)) (G (eo P f args .normal) cs) W
theorem jE.QW{f:dU}{args:Array aj}{R:aj->ak->Prop}(h:jE P f args W R)(I:Nat->dH->Nat)(d:Nat):jE P f args (dn W I d) R:=fun cs=>(h cs).QW I d
theorem xQ(T:Quiet P){g':aC}{I:Nat->dH->Nat}{d:Nat}(h:rR P g (dn W I d) g' (dn W I d)):jg P (fun g2 W2=>g2=g'/\∃I d,W2=dn W I d) g W:=fun K hg cV w V=>by
 obtain⟨_,_,_,_,_,hloc⟩:=rA T hg (lw:=dn W I d) cV h;simp only[qb,Nat.sub_self,Nat.add_zero] at hloc;have hs:=fun I'=>hloc I' 0 (fun i hi=>absurd hi oN);refine(DX T (Q:=fun g2 W2=>g2=g'/\∃I d,W2=dn W I d) h.1 h.2.1 (fun I'=>?_)).mono ?_ K hg cV w V
 .obtain⟨_,_,⟨aM,e⟩,h3,h4⟩:=hs I';refine⟨1,g',dn W I' 0,?_,⟨rfl,I',0,rfl⟩,h3,h4⟩;simp only[runN,nO];have e':stepT P (xd g (dn W I' 0))=(.next (xd g' (dn W I' 0)),aM):=e;rw[e']
 rintro g2 W2 _ ⟨τ1,d1,h1,τ2,d2,h2⟩;have h3:=congrArg (fun x=>dn x W2.tape W2.drawn) h2;exact⟨h1,W2.tape,W2.drawn,h3⟩
theorem rW{fr fr':bT}{cs cs':List bT}{w w':ak}(h:nO P (lone fr cs w)=.next (lone fr' cs' w')):rR P (G fr cs) w (G fr' cs') w':=by
 refine⟨rfl,rfl,?_,rfl,rfl⟩;have h':(stepT P (xd (G fr cs) w)).1=.next (xd (G fr' cs') w'):=h
 exact⟨_,Prod.ext h' rfl⟩
theorem IX(T:Quiet P){fr c:bT}{cs:List bT}{v:aj}{I:Nat->dH->Nat}{d:Nat}(h:fr.leaving P (dn W I d) (.returned v)) :
  jg P (fun g' W'=>g'=G (c.finish v) cs/\∃I d,W'=dn W I d) (G fr (c::cs)) W:=
 xQ T (rW (step_leave_returned h))
theorem E9[K:uK](T:Quiet P){f:dU}{args:Array aj}{R:aj->ak->Prop}(hi:P.inits.idxOf? f=none)(h:jE P f args W R)(hW:dv W){w:ak}(V:jo W w) :
  ∃N last o w' t',runNT P (N+1) (xd (G (eo P f args .normal) []) w) #[]=(.ended o w',t')/\runN P N (xd (G (eo P f args .normal) []) w)=.next last/\
   nO P last=.ended o w'/\Conc.Good P (fun v w'=>∃W',R v W'/\jo W' w'/\dv W'/\W.heap.size<=W'.heap.size) last o w' t':=by
 have hg0:Ap (G (eo P f args .normal) []):=⟨oA T f args .normal,by simp[G],.inl rfl⟩
 have hb0:Beside P #[G (eo P f args .normal) []] (G (eo P f args .normal) []) w #[] (fun _=>0):=
  ⟨rfl,leavers_one P _,past_nil.mono oN⟩
 obtain⟨N,gs1,g1,w1,d1,DI,t1,q1,hr1,hb1,W1,⟨fr,v,τ1,d2,rfl,hv,hfn,hl⟩,V1,hg1,CV,hs1⟩:=h [] K hg0 hW w V w.tape w.drawn _ none _ _ hb0
 have last:∀I d,∃w2 es,fe P true (G fr []) (dn w1 I d)=.ended (.done v) (dn w2 I d) es/\jo W1 w2/\∀e∈es,Bu w1.heap.size e:=by
  obtain⟨hm,N3,hk,fn,hf,hres⟩:=hl;have hrun:((results fn fr.tmps).runT P (dn W1 τ1 d2) #[]).1=.ok v (dn W1 τ1 d2):=by rw[Sem.runT_eq];exact hres
  rcases wJ (z_ (P:=P) fn fr.tmps) (lw:=dn W1 τ1 d2) (w:=w1) CV ⟨V1.size,V1.os,V1.out,V1.at_,V1.old,V1.kept⟩ with⟨why,ey,hx⟩|⟨ey,w2,k,r,new,hx⟩
  .obtain⟨es',he⟩:=hx #[];rw[he] at hrun;cases hrun
  .have h1:=hx.lone #[];rw[h1] at hrun;cases r with
   |error e=>cases hrun
   |ok v'=>
    simp only[AL] at hrun;injection hrun with hv' hw'
    subst hv'
    have hk0:k=0:=by
     have:=hx.drawn;rw[hw'] at this;simp only[qb] at this;omega
    subst hk0;intro I d;have h2:=hx.many I d (fun i hi=>absurd hi oN) #[];rw[Nat.add_zero,eZ] at h2;refine⟨w2,seen P fr.fn new++#[],?_,?_,fun e he=>?_⟩
    .obtain⟨fnn,tmps,todo,defers,mode,kind,ro⟩:=fr;simp only at hm N3 hk hf h2 hfn;subst hm N3 hk hfn;unfold fe G;simp only;unfold l_;simp only[hf,h2,AL];unfold uo;simp only[hi];rfl
    .have:=hx.tN;rw[hw'] at this;exact⟨this.size,this.os,this.out,this.at_,this.old,this.kept⟩
    have:=hx.evs e (fL e he);rw[hw'] at this;simp only[oK] at this;rw[<-V1.size];exact this
 have fin:∀M (gs:Array aC) (d:Nat) (sl:Option (Nat × Nat)) (t:Trace) (q:Nat->Nat),sumTo gs.size q=M->Beside P gs (G fr []) w1 t q->
   ∃N last o w' t',runNT P (N+1) (rh gs (dn w1 w.tape d) sl) t=(.ended o w',t')/\runN P N (rh gs (dn w1 w.tape d) sl)=.next last/\nO P last=.ended o w'/\
    Conc.Good P (fun v w'=>∃W',R v W'/\jo W' w'/\dv W'/\W.heap.size<=W'.heap.size) last o w' t':=by
  intro M
  induction M using Nat.strongRecOn with
  |ind M ih=>
   intro gs d sl t q hM hb;obtain⟨i,x,d1,DI,hi',hx,hst⟩:=crowd_pick (P:=P) (w:=dn w1 w.tape d) (sl:=sl) (Ak hb rfl) ⟨0,_,hb.zero,rfl⟩;have ew:(dn w1 w.tape d).at d1=dn w1 w.tape d1:=rfl;rw[ew] at hst;rcases eX i with rfl|jS
   .obtain⟨w2,es,hend,hV2,hes⟩:=last w.tape d1;have jR:=runT_many_ended (P:=P) (sl:=DI) (i:=0) hb.zero hend;have Gn:=tU hes fr.fn fr.place;have hP:=KT hb.past (aJ _) Gn;refine⟨0,rh gs (dn w1 w.tape d) sl,.done v,dn w2 w.tape d1,_,by simp only[runNT,hst,jR];rfl,rfl,by simp only[nO,hst,jR],v,rfl,⟨W1,hv,⟨hV2.size,hV2.os,hV2.out,hV2.at_,hV2.old,hV2.kept⟩,CV,hs1⟩,hP.clean,hP.over,⟨fun y hy=>?_,rfl⟩,fun j y hy hj=>?_⟩
    .obtain⟨j,hj⟩:=List.mem_iff_getElem?.1 hy;rw[List.getElem?_drop] at hj;exact⟨_,(hb.old.old (1+j) y oN (by simpa [rh] using hj)).leaves⟩
    have hq:=hb.old.old j y oN hy;refine⟨q j,?_⟩;have e:(t++iC 0 fr.fn fr.place es).deaf j (t++iC 0 fr.fn fr.place es).size=Deaf t j:=zQ Gn t j;rw[e];exact hq.hears _
   obtain⟨gs',aM,q',hr,hb',hsz,hlt⟩:=slip hb rfl jS hi' hx w.tape d1 DI;obtain⟨N,last,o,w',t',h1,h2,h3,h4⟩:=ih (sumTo gs'.size q') (by rw[hsz,<-hM];exact hlt) gs' d1 DI (t++aM) q' rfl hb';exact⟨N+1,last,o,w',t',by rw[runNT_succ_next (by rw[hst,hr])];exact h1,by rw[runN_succ_next (by rw[hst,hr])];exact h2,h3,h4⟩
 obtain⟨M,last,o,w',t',h1,h2,h3,h4⟩:=fin _ gs1 d1 DI t1 q1 rfl hb1;have e0:xd (G (eo P f args .normal) []) w=rh #[G (eo P f args .normal) []] (dn w w.tape w.drawn) none:=rfl;refine⟨N+M,last,o,w',t',?_,?_,h3,h4⟩
 .rw[e0,show N+M+1=N+(M+1) by omega,runNT_add P N (M+1) _ _ _ _ hr1];exact h1
 rw[e0,<-runNT_fst P (N+M) _ #[],runNT_add P N M _ _ _ _ hr1,runNT_fst];exact h2
theorem Cq[K:uK](w:ak)(hκ:∀b x,K.κ b=some x->b<w.heap.size/\∀o,w.heap[b]?=some o->fU o=false->o=x):∃W,jo W w/\dv W/\W.tape=w.tape/\W.drawn=w.drawn/\∀(b:Nat) (o:Obj),w.heap[b]?=some o->fU o=true->W.heap[b]?=some o:=by
 refine⟨{ w with heap:=w.heap.map fun o=>if fU o then o else .coro none },⟨sN,rfl,rfl,fun b=>?_,fun b x h=>by simpa using (hκ b x h).1,fun b x h h1=>?_⟩,fun b o ho=>?_,rfl,rfl,fun b o ho hk=>?_⟩
 .simp only[kn];cases h:w.heap[b]? with
  |none=>exact .inl rfl
  |some o=>
   simp only[dJ]
   by_cases hk:fU o=true
   .rw[if_pos hk];exact .inl rfl
   exact .inr ⟨by rw[if_neg hk],o,rfl,by simpa using hk⟩
 .obtain⟨h2,h3⟩:=hκ b x h;simp only[kn,aO h2,dJ,gP] at h1;rw[aO h2]
  by_cases hk:fU w.heap[b]=true
  .rw[if_pos hk] at h1;rw[h1] at hk;cases hk
  rw[h3 _ (aO h2) (by simpa using hk)]
 .simp only[kn] at ho;obtain⟨x,hx,rfl⟩:=eH.1 ho
  by_cases hk:fU x=true
  .rw[if_pos hk];exact .inl hk
  rw[if_neg hk];exact .inr rfl
 simp only[kn,ho,dJ,hk,if_true]
end
end Go.Lag
