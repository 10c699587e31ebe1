/- The tape: what a program of the model's own monad yields hangs on the  .. -/
import GoSem.Step
import Derived.Calls
import Derived.Laws.Sem
import Derived.DyingOn
import Derived.Conc.Beside
import Derived.Lone
set_option linter.all false
set_option maxHeartbeats 100000000
set_option maxRecDepth 1000000
open Array renaming mem_append -> GQ,getElem?_setIfInBounds_ne -> aC,getElem?_eq_some_iff -> ai,getElem?_setIfInBounds -> bF,append_empty -> dZ,getElem?_eq_none -> fH,empty_append -> fj,getElem?_push -> ly,getElem?_modify -> pE
open Bool renaming and_eq_true -> aI,false_eq_true -> bG
open Go renaming choose -> Ap,findLabel -> Aw,Goroutine -> aD,Program -> aL,TypeId -> aZ,Value -> ak,World -> ar,Frame -> bS,Question -> dK,FuncId -> dX,Addr -> dc,runtimePanic -> eF,callFunc -> fJ,stepG -> fo,Event -> gw,Sem -> iN,zeroValue -> iY,underlying -> jc,typeInfo -> kY,unwind -> lY,communicate -> mP,CommCase -> mU,unsupported -> ri,doReturn -> uu
open Go.Builtin renaming max_ -> BJ,lenOf -> Dm,firstCells -> eM,zeroCells -> fS,append_ -> ko,mayShare -> qc
open Go.Frame renaming enter -> eA
open Go.GStep renaming after -> BH
open Go.Instr renaming mapUpdate -> Ay,findKey -> Dl,indexAt -> eE,findAsking -> jw,index -> mR,checkKey -> nE,loadAt -> vn
open Go.MemAct renaming ofEvent -> fX
open Go.MemOp renaming ofEvents -> iB
open Go.Sem renaming runT -> dF
open Go.World renaming setCell -> km
open Go.stepG renaming exec -> cC,apply -> ep,oper -> fg
open List renaming getElem_mem -> bV,mem_cons_of_mem -> bW,mem_cons -> cy,mem_map -> dN,all_cons -> dT,length_pos_iff -> dm,mem_cons_self -> dz,mem_toArray -> eY,getElem?_eq_getElem -> fK,mem_filter -> fQ,not_mem_nil -> gO
open Nat renaming le_trans -> aO,le_refl -> ax,lt_of_lt_of_le -> bA,add_assoc -> qX
open Option renaming map_some -> dH,map_eq_some_iff -> eO
open Pure renaming pure -> eX
namespace Go.Lag
def dB(w:ar)(I:Nat->dK->Nat)(d:Nat):World:={ w with tape:=I,drawn:=d }
def Agree(n:Nat)(I:Nat->dK->Nat)(d:Nat)(I':Nat->dK->Nat)(d':Nat):Prop:=∀i,i<n->I (d+i)=I' (d'+i)
theorem Agree.le{n m:Nat}{I I':Nat->dK->Nat}{d d':Nat}(h:Agree n I d I' d')(hm:m<=n):Agree m I d I' d':=fun i hi=>h i (bA hi hm)
@[simp] theorem oG (w:ar) (I:Nat->dK->Nat) (d:Nat):(dB w I d).heap=w.heap:=rfl
@[simp] theorem ZE (w:ar) (I:Nat->dK->Nat) (d:Nat):(dB w I d).os=w.os:=rfl
@[simp] theorem zo (w:ar) (I:Nat->dK->Nat) (d:Nat):(dB w I d).tape=I:=rfl
@[simp] theorem qh (w:ar) (I:Nat->dK->Nat) (d:Nat):(dB w I d).drawn=d:=rfl
theorem qP(w:ar)(I:Nat->dK->Nat)(d:Nat)(a:dc):(dB w I d).cell? a=w.cell? a:=rfl
theorem yb(w:ar)(I:Nat->dK->Nat)(d:Nat)(a:dc):(dB w I d).frozen? a=w.frozen? a:=rfl
theorem QD(w:ar)(I:Nat->dK->Nat)(d:Nat)(r:Nat):(dB w I d).shape? r=w.shape? r:=rfl
theorem Cw(p:aL)(w:ar)(I:Nat->dK->Nat)(d:Nat)(a:dc)(b:Bool):(dB w I d).farLoad p a b=w.farLoad p a b:=rfl
theorem Tb(p:aL)(w:ar)(I:Nat->dK->Nat)(d:Nat)(x:dc)(u:aZ)(k:dc)(b:Bool):(dB w I d).seen p x u k b=w.seen p x u k b:=rfl
theorem FY(p:aL)(w:ar)(I:Nat->dK->Nat)(d:Nat)(x:dc)(u:aZ)(k:dc)(v:ak)(b:Bool) :
  (dB w I d).viewStore p x u k v b=(w.viewStore p x u k v b).map fun(w',l)=>(dB w' I d,l):=by
 unfold World.viewStore;simp only[Tb];generalize w.seen p x u k b=s;cases s with
 |error e=>by_cases h:tight p p.depth u<;>simp only[h]<;>rfl
 |ok s=>
  obtain⟨c,e,fz,first,like,cells⟩:=s
  by_cases h:tight p p.depth u
  .simp only[h,Bind.bind,Except.bind,eX,Except.pure];simp only[Bool.not_true,bG,if_false];cases v.bytes? with
   |none=>rfl
   |some bytes=>
    simp only[];split
    .rfl
    generalize (List.foldlM _ c cells:Except String (Array ak))=r;cases r<;>rfl
  simp only[h];rfl
theorem zN(p:aL)(w:ar)(I:Nat->dK->Nat)(d:Nat)(a:dc)(v:ak)(b:Bool) :
  (dB w I d).farStore p a v b=(w.farStore p a v b).map fun(w',l)=>(dB w' I d,l):=by
 unfold World.farStore;simp only[oG];split
 .rw[FY];generalize w.viewStore p _ _ a v b=r;cases r<;>rfl
 rfl
def AV:Builtin->Bool
 |.append|.cap|.clear|.close|.copy|.delete|.len|.max|.min|.recover|.panic=>true
 |_=>false
def I3(c:Call):Bool:=
 match c.callee with
 |.builtin b=>AV b
 |_=>true
def AU(o:Oper):Bool:=
 match o.op with
 |.call c|.go c|.defer c=>I3 c
 |_=>true
def dW:Code->Bool
 |.region _ aN _=>aN.all AU
 |.seq a b=>dW a&&dW b
 |.cond _ a b=>dW a&&dW b
 |.block _ c=>dW c
 |.loop c=>dW c
 |.rangeFunc _ _ a b=>dW a&&dW b
 |.scope c=>dW c
 |_=>true
def KX:Target->Bool
 |.builtin b ..=>AV b
 |.coroexit _=>false
 |_=>true
def pH(d:Deferred):Bool:=KX d.target
def xQ(l:Loop):Bool:=(l.pending.all dW)&&dW l.assign&&dW l.body
def fT:Obj->Bool
 |.loop l=>xQ l
 |.deferred (some ds)=>ds.all pH
 |.coro _=>false
 |.finalizers ..=>false
 |_=>true
def J6(c:Sys):Prop:=∀os,∃r,Kernel.perform c os=.done (r,os)/\r≠.wouldBlock
def FL{α:Type}(s:iN α):Prop:=∃why,s=.halt (.stuck why)
def Calm(P:aL){α:Type}(Q:α->Prop):iN α->Prop
 |.pure a=>Q a
 |.load _ _ k=>∀v,Calm P Q (k v)
 |.store _ _ _ k=>Calm P Q k
 |.new o k=>fT o=true/\∀r,Calm P Q (k r)
 |.shape _ k=>∀s,Calm P Q (k s)
 |.freeze _ _ k=>Calm P Q k
 |.frozen _ k=>∀b,Calm P Q (k b)
 |.getObj _ k=>(∀o,fT o=true->Calm P Q (k o))/\(FL (k (.coro none))\/(Calm P Q (k (.coro none))/\∀o,fT o=false->k o=k (.coro none)))
 |.setObj _ o k=>fT o=true/\Calm P Q k
 |.choose _ k=>∀n,Calm P Q (k n)
 |.sys c k=>J6 c/\∀r,Calm P Q (k r)
 |.program k=>Calm P Q (k P)
 |.mark m k=>(m=.noRoom\/∃f,m=.extern f)/\Calm P Q k
 |.halt h=>h≠.blocked/\h≠.waiting
def Gone(P:aL){α:Type}(Q:α->Prop)(f:Obj->iN α):Prop:=FL (f (.coro none))\/(Calm P Q (f (.coro none))/\∀o,fT o=false->f o=f (.coro none))
theorem mX{P:aL}{α:Type}{Q:α->Prop}{f:Obj->iN α}{w:String}(h:f (.coro none)=.halt (.stuck w)):Gone P Q f:=.inl ⟨w,h⟩
theorem qJ{P:aL}{α:Type}{Q:α->Prop}{f:Obj->iN α}(h:Calm P Q (f (.coro none)))(h2:∀o,fT o=false->f o=f (.coro none)):Gone P Q f:=.inr ⟨h,h2⟩
abbrev Any{α:Type}:α->Prop:=fun _=>True
section
variable{P:aL}{α β:Type}{Q:β->Prop}
theorem eT{R:α->Prop}{s:iN α}{f:α->iN β}(hs:Calm P R s)(hf:∀a,R a->Calm P Q (f a)):Calm P Q (s >>= f):=by
 show Calm P Q (s.bind f)
 induction s with
 |pure a=>exact hf a hs
 |load m a k ih=>exact fun v=>ih v (hs v)
 |store m a v k ih=>exact ih hs
 |new o k ih=>exact⟨hs.1,fun r=>ih r (hs.2 r)⟩
 |shape r k ih=>exact fun s=>ih s (hs s)
 |freeze a n k ih=>exact ih hs
 |frozen a k ih=>exact fun b=>ih b (hs b)
 |getObj r k ih=>
  refine⟨fun o ho=>ih o (hs.1 o ho),hs.2.imp (fun⟨why,hw⟩=>⟨why,by show(k (.coro none)).bind f=_;rw[hw];rfl⟩) fun⟨h1,h2⟩=>⟨ih _ h1,fun o ho=>?_⟩⟩;show(k o).bind f=(k (.coro none)).bind f;rw[h2 o ho]
 |setObj r o k ih=>exact⟨hs.1,ih hs.2⟩
 |choose q k ih=>exact fun n=>ih n (hs n)
 |sys c k ih=>exact⟨hs.1,fun r=>ih r (hs.2 r)⟩
 |program k ih=>exact ih P hs
 |mark m k ih=>exact⟨hs.1,ih hs.2⟩
 |halt h=>exact hs
theorem aT{s:iN α}{f:α->iN β}(hs:Calm P Any s)(hf:∀a,Calm P Q (f a)):Calm P Q (s >>= f):=eT hs fun a _=>hf a
theorem cQ{a:α}:Calm P Any (eX a:iN α):=trivial
theorem uh{a:α}:Calm P Any (Sem.pure a:iN α):=trivial
theorem Fh{a:β}(h:Q a):Calm P Q (eX a:iN β):=h
theorem vO{s:iN α}{f:α->β}(hs:Calm P Any s):Calm P Any (Functor.map f s):=eT (Q:=Any) hs fun _ _=>trivial
theorem bH{w:String}:Calm P Q (stuck w:iN β):=⟨by simp,by simp⟩
theorem dO{u:Unsupported}:Calm P Q (ri u:iN β):=⟨by simp,by simp⟩
theorem kE{v:ak}:Calm P Q (goPanic v:iN β):=⟨by simp,by simp⟩
theorem uj{w:String}:Calm P Q (fatal w:iN β):=⟨by simp,by simp⟩
theorem qQ{w:String}:Calm P Q (throw w:iN β):=⟨by simp,by simp⟩
theorem tH{a:dc}{m:Mode}:Calm P Any (load a m):=fun _=>trivial
theorem qR{a:dc}{v:ak}{m:Mode}:Calm P Any (store a v m):=trivial
theorem lJ{o:Obj}(h:fT o=true):Calm P Any (newObj o):=⟨h,fun _=>trivial⟩
theorem ug{r:Nat}:Calm P Any (shape r):=fun _=>trivial
theorem rN{a:dc}{n:Nat}:Calm P Any (freeze a n):=trivial
theorem rM{a:dc}:Calm P Any (frozen a):=fun _=>trivial
theorem ki{r:Nat}{f:Obj->iN β}(h:∀o,fT o=true->Calm P Q (f o))(hk:Gone P Q f):Calm P Q (getObj r >>= f):=⟨h,hk⟩
theorem iX{r:Nat}{o:Obj}(h:fT o=true):Calm P Any (setObj r o):=⟨h,trivial⟩
theorem lK{q:dK}:Calm P Any (Ap q):=fun _=>trivial
theorem jA:Calm P Any program:=trivial
theorem nu{n:Nat}:Calm P Any (askRoom n):=by
 unfold askRoom;split
 .exact⟨.inl rfl,trivial⟩
 trivial
theorem oQ:Calm P Any (mark .noRoom):=⟨.inl rfl,trivial⟩
theorem Fj{f:α->iN β}(hf:∀a,Calm P Any (f a))(l:List α):Calm P Any (l.mapM f):=by
 rw[<-List.mapM'_eq_mapM]
 induction l with
 |nil=>exact cQ
 |cons a l ih=>exact aT (hf a) fun _=>aT ih fun _=>cQ
theorem ql{f:α->iN β}(hf:∀a,Calm P Any (f a))(l:Array α):Calm P Any (l.mapM f):=by
 rw[Array.mapM_eq_mapM_toList];exact vO (Fj hf _)
theorem CL{γ:Type}{f:β->γ->iN β}(hf:∀a b,Calm P Any (f a b))(b:β)(l:List γ):Calm P Any (l.foldlM f b):=by
 induction l generalizing b with
 |nil=>exact cQ
 |cons a l ih=>exact aT (hf b a) fun _=>ih _
theorem jx{γ:Type}{f:γ->β->iN (ForInStep β)}(hf:∀a b,Calm P Any (f a b))(l:List γ)(b:β):Calm P Any (forIn l b f):=by
 induction l generalizing b with
 |nil=>exact cQ
 |cons a l ih=>
  rw[List.forIn_cons];refine aT (hf a b) fun r=>?_;cases r with
  |done b=>exact cQ
  |yield b=>exact ih b
theorem lW{γ:Type}{f:γ->β->iN (ForInStep β)}(hf:∀a b,Calm P Any (f a b))(l:Array γ)(b:β):Calm P Any (forIn l b f):=by
 rw[<-Array.forIn_toList];exact jx hf _ _
theorem lV{f:Nat->β->iN (ForInStep β)}(hf:∀a b,Calm P Any (f a b))(l:Std.Legacy.Range)(b:β):Calm P Any (forIn l b f):=by
 rw[Std.Legacy.Range.forIn_eq_forIn_range'];exact jx hf _ _
end
section
variable{P:aL}
class K (P:aL) {α:Type} (s:iN α):Prop where
 c:Calm P Any s
theorem bM{p:Prop}(h:p:=by
  repeat' (first|exact K.c|with_reducible (first|exact cQ|exact uh|exact bH|exact dO|exact kE|exact uj|exact qQ|exact tH|exact qR|exact ug|exact rN|exact rM|exact lK|exact jA|exact nu|exact oQ|exact(lJ rfl)|exact(iX rfl)|assumption)|exact ih ..|(with_reducible apply mX;exact rfl)|(with_reducible refine qJ ?_ (fun o ho=>by cases o<;>first|rfl|(revert ho;simp[fT];done)))|(refine ki (fun _ _=>?_) ?_)|(refine aT ?_ (fun _=>?_))|(refine vO ?_)|(refine ql (fun _=>?_) _)|(refine jx (fun _ _=>?_) _ _)|(refine lW (fun _ _=>?_) _ _)|(refine lV (fun _ _=>?_) _ _)|split|intro _|dsimp only|trivial)):p:=h
instance (x0):K P (viewAt x0):=⟨by unfold viewAt;exact bM⟩
instance (x0):K P (numberAt x0):=⟨by unfold numberAt;exact bM⟩
instance (x0):K P (cellsIn x0):=⟨by unfold cellsIn;exact bM⟩
instance (x0 x1):K P (asNumber x0 x1):=⟨by unfold asNumber;exact bM⟩
instance (x0):K P (behindNumber x0):=⟨by unfold behindNumber;exact bM⟩
instance (x0):K P (backFromNumber x0):=⟨by unfold backFromNumber;exact bM⟩
instance (x0):K P (noView x0):=⟨by unfold noView;exact bM⟩
instance (x0):K P (markStringish x0):=⟨by unfold markStringish;exact bM⟩
instance (x0):K P (stringish x0):=⟨by unfold stringish;exact bM⟩
instance (x0 x1):K P (mayBeOne x0 x1):=⟨by unfold mayBeOne;exact bM⟩
instance (x0 x1):K P (sameAddr x0 x1):=⟨by unfold sameAddr;exact bM⟩
instance (x0 x1):K P (samePointer x0 x1):=⟨by unfold samePointer;exact bM⟩
instance (x0):K P (kY x0):=⟨by unfold kY;exact bM⟩
theorem jF(x0):Calm P Any (kY x0):=K.c
instance (x0):K P (jc x0):=⟨by unfold jc;exact bM⟩
theorem gT(x0):Calm P Any (jc x0):=K.c
instance (x0):K P (cutType x0):=⟨by unfold cutType;exact bM⟩
instance (x0):K P (globalAddr x0):=⟨by unfold globalAddr;exact bM⟩
instance (x0):K P (typeStr x0):=⟨by unfold typeStr;exact bM⟩
theorem uf(x0):Calm P Any (typeStr x0):=K.c
instance (x0):K P (iY x0):=⟨by unfold iY;exact bM⟩
theorem nt(x0):Calm P Any (iY x0):=K.c
instance (x0):K P (sizeOf x0):=⟨by unfold sizeOf;exact bM⟩
theorem Mq(x0):Calm P Any (sizeOf x0):=K.c
instance (x0):K P (isAgg x0):=⟨by unfold isAgg;exact bM⟩
theorem yi(a i n acc):Calm P Any (loadCellsFrom a i n acc):=by
 induction n generalizing i acc with
 |zero=>exact cQ
 |succ n ih=>exact aT tH fun _=>ih _ _
instance (a i n acc):K P (loadCellsFrom a i n acc):=⟨yi a i n acc⟩
instance (x0 x1):K P (loadCells x0 x1):=⟨by unfold loadCells;exact bM⟩
theorem uH(a vs i):Calm P Any (storeCells a vs i):=by
 induction vs generalizing i with
 |nil=>exact cQ
 |cons v vs ih=>exact aT qR fun _=>ih _
instance (a vs i):K P (storeCells a vs i):=⟨uH a vs i⟩
instance (x0 x1):K P (loadVar x0 x1):=⟨by unfold loadVar;exact bM⟩
theorem ui(x0 x1):Calm P Any (loadVar x0 x1):=K.c
instance (x0 x1 x2):K P (storeVar x0 x1 x2):=⟨by unfold storeVar;exact bM⟩
instance (x0 x1):K P (newRow x0 x1):=⟨by unfold newRow;exact bM⟩
theorem Ms(x0 x1):Calm P Any (newRow x0 x1):=K.c
instance (x0 x1):K P (newVar x0 x1):=⟨by unfold newVar;exact bM⟩
theorem Mr(x0 x1):Calm P Any (newVar x0 x1):=K.c
instance (x0):K P (elemOf x0):=⟨by unfold elemOf;exact bM⟩
theorem Mv(x0):Calm P Any (elemOf x0):=K.c
instance (x0 x1 x2):K P (part x0 x1 x2):=⟨by unfold part;exact bM⟩
theorem H4(x0 x1 x2):Calm P Any (part x0 x1 x2):=K.c
instance {α:Type} (m):K P (panicString m:iN α):=⟨by unfold panicString;exact bM⟩
instance {α:Type} (e):K P (eF e:iN α):=⟨by unfold eF;exact bM⟩
theorem iH{α:Type}(e):Calm P Any (eF e:iN α):=K.c
instance {α:Type} (k x y c):K P (boundsPanic k x y c:iN α):=⟨by unfold boundsPanic;exact bM⟩
instance (x0):K P (asIntOf x0):=⟨by unfold asIntOf;exact bM⟩
instance (x0):K P (asInt x0):=⟨by unfold asInt;exact bM⟩
theorem qT(x0):Calm P Any (asInt x0):=K.c
instance (x0):K P (asBool x0):=⟨by unfold asBool;exact bM⟩
theorem Mw(x0):Calm P Any (asBool x0):=K.c
instance (x0):K P (asString x0):=⟨by unfold asString;exact bM⟩
theorem kS(x0):Calm P Any (asString x0):=K.c
instance (x0):K P (asAgg x0):=⟨by unfold asAgg;exact bM⟩
theorem uk(x0):Calm P Any (asAgg x0):=K.c
instance (x0):K P (asAddr x0):=⟨by unfold asAddr;exact bM⟩
theorem m6(x0):Calm P Any (asAddr x0):=K.c
instance (x0):K P (byteOf x0):=⟨by unfold byteOf;exact bM⟩
instance (x0 x1 x2):K P (partAt x0 x1 x2):=⟨by unfold partAt;exact bM⟩
instance (x0 x1):K P (fieldPlace x0 x1):=⟨by unfold fieldPlace;exact bM⟩
theorem Dc(x0 x1):Calm P Any (fieldPlace x0 x1):=K.c
instance (x0 x1 x2):K P (variablesAt x0 x1 x2):=⟨by unfold variablesAt;exact bM⟩
instance (x0 x1 x2):K P (intVariablesAt x0 x1 x2):=⟨by unfold intVariablesAt;exact bM⟩
instance (x0 x1):K P (byteVariablesAt x0 x1):=⟨by unfold byteVariablesAt;exact bM⟩
theorem Fl(a acc n):Calm P Any (loadBytes a acc n):=by
 induction n generalizing acc a with
 |zero=>unfold loadBytes;exact cQ
 |succ n ih=>
  unfold loadBytes
  all_goals exact bM
instance (a acc n):K P (loadBytes a acc n):=⟨Fl a acc n⟩
instance (x0 x1):K P (storeBytes x0 x1):=⟨by unfold storeBytes;exact bM⟩
instance (x0):K P (Instr.sureAddr x0):=⟨by unfold Instr.sureAddr;exact bM⟩
instance (x0 x1):K P (vn x0 x1):=⟨by unfold vn;exact bM⟩
theorem Ag(x0 x1):Calm P Any (vn x0 x1):=K.c
instance (x0 x1 x2):K P (Instr.storeAt x0 x1 x2):=⟨by unfold Instr.storeAt;exact bM⟩
theorem yj(x0 x1 x2):Calm P Any (Instr.storeAt x0 x1 x2):=K.c
instance (x0 x1 x2):K P (Instr.fieldAt x0 x1 x2):=⟨by unfold Instr.fieldAt;exact bM⟩
theorem yr(x0 x1 x2):Calm P Any (Instr.fieldAt x0 x1 x2):=K.c
instance (x0 x1 x2):K P (eE x0 x1 x2):=⟨by unfold eE;exact bM⟩
theorem yo(x0 x1 x2):Calm P Any (eE x0 x1 x2):=K.c
instance (x0 x1 x2):K P (Instr.alloc x0 x1 x2):=⟨by unfold Instr.alloc;exact bM⟩
theorem Bp(x0 x1 x2):Calm P Any (Instr.alloc x0 x1 x2):=K.c
instance (x0 x1):K P (Instr.box x0 x1):=⟨by unfold Instr.box;exact bM⟩
theorem Fq(x0 x1):Calm P Any (Instr.box x0 x1):=K.c
instance (x0 x1):K P (Instr.build x0 x1):=⟨by unfold Instr.build;exact bM⟩
theorem Bo(x0 x1):Calm P Any (Instr.build x0 x1):=K.c
instance (x0 x1 x2):K P (Instr.buildSlice x0 x1 x2):=⟨by unfold Instr.buildSlice;exact bM⟩
theorem uY(x0 x1 x2):Calm P Any (Instr.buildSlice x0 x1 x2):=K.c
instance (x0):K P (Instr.entry x0):=⟨by unfold Instr.entry;exact bM⟩
theorem Bl(x0):Calm P Any (Instr.entry x0):=K.c
instance (x0 x1):K P (Instr.extract x0 x1):=⟨by unfold Instr.extract;exact bM⟩
theorem yu(x0 x1):Calm P Any (Instr.extract x0 x1):=K.c
instance (x0 x1 x2):K P (Instr.field x0 x1 x2):=⟨by unfold Instr.field;exact bM⟩
theorem Bj(x0 x1 x2):Calm P Any (Instr.field x0 x1 x2):=K.c
instance (x0 x1 x2):K P (mR x0 x1 x2):=⟨by unfold mR;exact bM⟩
theorem Bi(x0 x1 x2):Calm P Any (mR x0 x1 x2):=K.c
instance (x0 x1):K P (Op.twoPlaces x0 x1):=⟨by unfold Op.twoPlaces;exact bM⟩
instance (x0 x1 x2):K P (Op.addrSub x0 x1 x2):=⟨by unfold Op.addrSub;exact bM⟩
instance (x0 x1 x2):K P (Op.addrCmp x0 x1 x2):=⟨by unfold Op.addrCmp;exact bM⟩
instance (x0 x1 x2):K P (Op.addrMod x0 x1 x2):=⟨by unfold Op.addrMod;exact bM⟩
instance (x0 x1 x2 x3):K P (Op.floatArith x0 x1 x2 x3):=⟨by unfold Op.floatArith;exact bM⟩
instance (x0 x1 x2 x3):K P (Op.floatCmp x0 x1 x2 x3):=⟨by unfold Op.floatCmp;exact bM⟩
instance (x0 x1 x2 x3):K P (Op.intArith x0 x1 x2 x3):=⟨by unfold Op.intArith;exact bM⟩
instance (x0 x1 x2 x3):K P (Op.intBits x0 x1 x2 x3):=⟨by unfold Op.intBits;exact bM⟩
instance (x0 x1 x2):K P (Op.intCmp x0 x1 x2):=⟨by unfold Op.intCmp;exact bM⟩
instance (x0 x1 x2 x3):K P (Op.intDiv x0 x1 x2 x3):=⟨by unfold Op.intDiv;exact bM⟩
instance (x0 x1 x2 x3 x4):K P (Op.shift x0 x1 x2 x3 x4):=⟨by unfold Op.shift;exact bM⟩
instance (x0 x1 x2):K P (Op.stringOp x0 x1 x2):=⟨by unfold Op.stringOp;exact bM⟩
instance (x0 x1 x2):K P (Conv.floatToFloat x0 x1 x2):=⟨by unfold Conv.floatToFloat;exact bM⟩
instance (x0 x1 x2):K P (Conv.floatToInt x0 x1 x2):=⟨by unfold Conv.floatToInt;exact bM⟩
instance (x0 x1):K P (Conv.intToFloat x0 x1):=⟨by unfold Conv.intToFloat;exact bM⟩
instance (x0 x1):K P (Conv.intToInt x0 x1):=⟨by unfold Conv.intToInt;exact bM⟩
instance (x0):K P (Conv.intToString x0):=⟨by unfold Conv.intToString;exact bM⟩
instance (x0 x1 x2 x3):K P (Conv.complexToComplex x0 x1 x2 x3):=⟨by unfold Conv.complexToComplex;exact bM⟩
instance (x0):K P (Conv.bytesToString x0):=⟨by unfold Conv.bytesToString;exact bM⟩
instance (x0):K P (Conv.runesToString x0):=⟨by unfold Conv.runesToString;exact bM⟩
instance (x0 x1):K P (Conv.stringToBytes x0 x1):=⟨by unfold Conv.stringToBytes;exact bM⟩
instance (x0 x1):K P (Conv.stringToRunes x0 x1):=⟨by unfold Conv.stringToRunes;exact bM⟩
instance (x0):K P (Conv.seenAt x0):=⟨by unfold Conv.seenAt;exact bM⟩
instance (x0 x1 x2):K P (Conv.unsafePointer x0 x1 x2):=⟨by unfold Conv.unsafePointer;exact bM⟩
instance (x0 x1 x2 x3):K P (Op.Complex.arith x0 x1 x2 x3):=⟨by unfold Op.Complex.arith;exact bM⟩
instance (x0 x1 x2 x3):K P (Op.Complex.cmp x0 x1 x2 x3):=⟨by unfold Op.Complex.cmp;exact bM⟩
instance (x0 x1 x2):K P (Op.Complex.conv x0 x1 x2):=⟨by unfold Op.Complex.conv;exact bM⟩
instance (x0 x1):K P (Op.Complex.add x0 x1):=⟨by unfold Op.Complex.add;exact bM⟩
instance (x0 x1):K P (Op.Complex.sub x0 x1):=⟨by unfold Op.Complex.sub;exact bM⟩
instance (x0 x1):K P (Op.Complex.mul x0 x1):=⟨by unfold Op.Complex.mul;exact bM⟩
instance (x0 x1):K P (Op.Complex.quo x0 x1):=⟨by unfold Op.Complex.quo;exact bM⟩
instance (x0 x1 x2 x3):K P (Op.Complex.product x0 x1 x2 x3):=⟨by unfold Op.Complex.product;exact bM⟩
instance (x0 x1 x2 x3 x4):K P (Op.Complex.corrected x0 x1 x2 x3 x4):=⟨by unfold Op.Complex.corrected;exact bM⟩
theorem sg(a b c d):Calm P Any (Op.Complex.quotient a b c d):=by
 unfold Op.Complex.quotient;refine aT (K.c) fun t=>?_
 extract_lets jp
 have hjp:∀x,Calm P Any (jp x):=by
  rintro⟨e,f⟩;show Calm P Any (Op.Complex.cmp BinOp.eql FloatKind.f64 c 0 >>= _);refine aT (K.c) fun t=>aT (K.c) fun u=>?_
  extract_lets zero
  split
  .exact cQ
  split
  .exact aT (K.c) fun _=>aT (K.c) fun _=>cQ
  split
  .exact K.c
  split
  .exact K.c
  exact cQ
 clear_value jp
 cases t
 .simp only[bG,if_false];exact aT (K.c) fun _=>aT (K.c) fun _=>aT (K.c) fun _=>aT (K.c) fun _=>aT (K.c) fun _=>aT (K.c) fun _=>aT (K.c) fun _=>aT (K.c) fun _=>aT (K.c) fun _=>aT cQ fun _=>hjp _
 simp only[if_true];exact aT (K.c) fun _=>aT (K.c) fun _=>aT (K.c) fun _=>aT (K.c) fun _=>aT (K.c) fun _=>aT (K.c) fun _=>aT (K.c) fun _=>aT (K.c) fun _=>aT (K.c) fun _=>aT cQ fun _=>hjp _
instance (a b c d):K P (Op.Complex.quotient a b c d):=⟨sg a b c d⟩
instance (x0 x1 x2 x3 x4 x5):K P (Op.complexOp x0 x1 x2 x3 x4 x5):=⟨by unfold Op.complexOp;exact bM⟩
instance (x0 x1):K P (Op.unary x0 x1):=⟨by unfold Op.unary;exact bM⟩
theorem Gx(x0 x1):Calm P Any (Op.unary x0 x1):=K.c
theorem De(n t x y):Calm P Any (Op.equalIn n t x y):=by
 induction n generalizing t x y with
 |zero=>unfold Op.equalIn;exact dO
 |succ n ih=>
  unfold Op.equalIn
  all_goals exact bM
instance (n t x y):K P (Op.equalIn n t x y):=⟨De n t x y⟩
instance (x0 x1 x2):K P (Op.equal x0 x1 x2):=⟨by unfold Op.equal;exact bM⟩
theorem Ae(n t x y):Calm P Any (Op.eqGuardIn n t x y):=by
 induction n generalizing t x y with
 |zero=>unfold Op.eqGuardIn;exact dO
 |succ n ih=>
  unfold Op.eqGuardIn
  all_goals exact bM
instance (n t x y):K P (Op.eqGuardIn n t x y):=⟨Ae n t x y⟩
theorem wX(e n t v):Calm P Any (nE e n t v):=by
 induction n generalizing t v with
 |zero=>unfold nE;exact dO
 |succ n ih=>
  unfold nE
  all_goals exact bM
instance (e n t v):K P (nE e n t v):=⟨wX e n t v⟩
theorem uW(t k es i):Calm P Any (jw t k es i):=by
 induction es generalizing i with
 |nil=>unfold jw;exact cQ
 |cons e es ih=>
  unfold jw
  all_goals exact bM
instance (t k es i):K P (jw t k es i):=⟨uW t k es i⟩
instance (x0 x1 x2):K P (Dl x0 x1 x2):=⟨by unfold Dl;exact bM⟩
instance (x0 x1 x2 x3):K P (Instr.lookup x0 x1 x2 x3):=⟨by unfold Instr.lookup;exact bM⟩
theorem Af(x0 x1 x2 x3):Calm P Any (Instr.lookup x0 x1 x2 x3):=K.c
instance (x0 x1):K P (Instr.makeChan x0 x1):=⟨by unfold Instr.makeChan;exact bM⟩
theorem wW(x0 x1):Calm P Any (Instr.makeChan x0 x1):=K.c
instance (x0 x1 x2):K P (Instr.makeFunc x0 x1 x2):=⟨by unfold Instr.makeFunc;exact bM⟩
theorem wV(x0 x1 x2):Calm P Any (Instr.makeFunc x0 x1 x2):=K.c
instance (x0 x1):K P (Instr.makeInterface x0 x1):=⟨by unfold Instr.makeInterface;exact bM⟩
theorem si(x0 x1):Calm P Any (Instr.makeInterface x0 x1):=K.c
instance (x0 x1):K P (Instr.makeMap x0 x1):=⟨by unfold Instr.makeMap;exact bM⟩
theorem yn(x0 x1):Calm P Any (Instr.makeMap x0 x1):=K.c
instance (x0 x1 x2):K P (Instr.makeSlice x0 x1 x2):=⟨by unfold Instr.makeSlice;exact bM⟩
theorem vQ(x0 x1 x2):Calm P Any (Instr.makeSlice x0 x1 x2):=K.c
instance (x0 x1):K P (Instr.keyThatStays x0 x1):=⟨by unfold Instr.keyThatStays;exact bM⟩
instance (x0 x1 x2 x3):K P (Ay x0 x1 x2 x3):=⟨by unfold Ay;exact bM⟩
theorem oT(x0 x1 x2 x3):Calm P Any (Ay x0 x1 x2 x3):=K.c
instance (x0 x1 x2):K P (Instr.mapEntry x0 x1 x2):=⟨by unfold Instr.mapEntry;exact bM⟩
theorem wU(x0 x1 x2):Calm P Any (Instr.mapEntry x0 x1 x2):=K.c
instance (x0 x1 x2 x3):K P (Instr.entryStore x0 x1 x2 x3):=⟨by unfold Instr.entryStore;exact bM⟩
theorem uX(x0 x1 x2 x3):Calm P Any (Instr.entryStore x0 x1 x2 x3):=K.c
instance (x0 x1 x2):K P (Instr.next x0 x1 x2):=⟨by unfold Instr.next;exact bM⟩
theorem Df(x0 x1 x2):Calm P Any (Instr.next x0 x1 x2):=K.c
instance (x0):K P (Instr.waits x0):=⟨by unfold Instr.waits;exact bM⟩
theorem Bg(x0):Calm P Any (Instr.waits x0):=K.c
instance (x0):K P (Instr.ready x0):=⟨by unfold Instr.ready;exact bM⟩
theorem Bh(x0):Calm P Any (Instr.ready x0):=K.c
instance (x0 x1 x2):K P (Instr.sliceBound x0 x1 x2):=⟨by unfold Instr.sliceBound;exact bM⟩
instance (x0 x1 x2 x3 x4 x5):K P (Instr.sliceBounds x0 x1 x2 x3 x4 x5):=⟨by unfold Instr.sliceBounds;exact bM⟩
instance (x0 x1 x2 x3 x4):K P (Instr.slice x0 x1 x2 x3 x4):=⟨by unfold Instr.slice;exact bM⟩
instance (x0 x1 x2 x3 x4):K P (Instr.sliceAt x0 x1 x2 x3 x4):=⟨by unfold Instr.sliceAt;exact bM⟩
theorem yl(x0 x1 x2 x3 x4):Calm P Any (Instr.sliceAt x0 x1 x2 x3 x4):=K.c
instance (x0 x1):K P (Instr.arrayAt x0 x1):=⟨by unfold Instr.arrayAt;exact bM⟩
theorem yx(x0 x1):Calm P Any (Instr.arrayAt x0 x1):=K.c
instance (x0 x1):K P (Builtin.holdsCells x0 x1):=⟨by unfold Builtin.holdsCells;exact bM⟩
instance (x0 x1 x2 x3 x4):K P (qc x0 x1 x2 x3 x4):=⟨by unfold qc;exact bM⟩
theorem uZ(x0 x1 x2 x3 x4):Calm P Any (qc x0 x1 x2 x3 x4):=K.c
instance (x0):K P (Dm x0):=⟨by unfold Dm;exact bM⟩
theorem yy(x0):Calm P Any (Dm x0):=K.c
instance (x0 x1 x2):K P (eM x0 x1 x2):=⟨by unfold eM;exact bM⟩
theorem m7(x0 x1 x2):Calm P Any (eM x0 x1 x2):=K.c
instance (x0 x1 x2):K P (Builtin.cap_ x0 x1 x2):=⟨by unfold Builtin.cap_;exact bM⟩
theorem Ai(x0 x1 x2):Calm P Any (Builtin.cap_ x0 x1 x2):=K.c
instance (x0 x1 x2):K P (Builtin.clear_ x0 x1 x2):=⟨by unfold Builtin.clear_;exact bM⟩
theorem wY(x0 x1 x2):Calm P Any (Builtin.clear_ x0 x1 x2):=K.c
theorem pI(x0 x1 x2):Calm P Any (Builtin.close_ x0 x1 x2):=by
 unfold Builtin.close_;obtain⟨l⟩:=x2;rcases l with _|⟨a,_|⟨b,_|⟨c,_|⟨d,l⟩⟩⟩⟩
 all_goals (try dsimp only)
 all_goals (try (cases a<;>try dsimp only))
 all_goals (try (rename_i r;cases r<;>try dsimp only))
 all_goals (try exact bH)
 all_goals (try exact K.c)
 all_goals exact bM
instance (x0 x1 x2):K P (Builtin.close_ x0 x1 x2):=⟨pI x0 x1 x2⟩
instance (x0 x1 x2):K P (Builtin.copy_ x0 x1 x2):=⟨by unfold Builtin.copy_;exact bM⟩
theorem yz(x0 x1 x2):Calm P Any (Builtin.copy_ x0 x1 x2):=K.c
instance (x0 x1 x2):K P (Builtin.delete_ x0 x1 x2):=⟨by unfold Builtin.delete_;exact bM⟩
theorem vR(x0 x1 x2):Calm P Any (Builtin.delete_ x0 x1 x2):=K.c
instance (x0 x1 x2):K P (Builtin.len_ x0 x1 x2):=⟨by unfold Builtin.len_;exact bM⟩
theorem Ah(x0 x1 x2):Calm P Any (Builtin.len_ x0 x1 x2):=K.c
instance (x0 x1):K P (Builtin.max2 x0 x1):=⟨by unfold Builtin.max2;exact bM⟩
instance (x0 x1):K P (Builtin.min2 x0 x1):=⟨by unfold Builtin.min2;exact bM⟩
theorem rP(x0 x1 x2):Calm P Any (BJ x0 x1 x2):=by
 unfold BJ;split
 .first|exact bH|exact cQ
 refine CL (fun _ _=>K.c) _ _
instance (x0 x1 x2):K P (BJ x0 x1 x2):=⟨rP x0 x1 x2⟩
theorem rO(x0 x1 x2):Calm P Any (Builtin.min_ x0 x1 x2):=by
 unfold Builtin.min_;split
 .first|exact bH|exact cQ
 refine CL (fun _ _=>K.c) _ _
instance (x0 x1 x2):K P (Builtin.min_ x0 x1 x2):=⟨rO x0 x1 x2⟩
theorem tK(x0 x1 x2):Calm P Any (Builtin.unsafeAdd_ x0 x1 x2):=by
 unfold Builtin.unsafeAdd_;obtain⟨l⟩:=x2;rcases l with _|⟨a,_|⟨b,_|⟨c,_|⟨d,l⟩⟩⟩⟩
 all_goals (try dsimp only)
 all_goals (try (cases a<;>try dsimp only))
 all_goals (try (rename_i r;cases r<;>try dsimp only))
 all_goals (try exact bH)
 all_goals (try exact K.c)
 all_goals exact bM
instance (x0 x1 x2):K P (Builtin.unsafeAdd_ x0 x1 x2):=⟨tK x0 x1 x2⟩
theorem lh(x0 x1 x2):Calm P Any (Builtin.ssaWrapNilChk_ x0 x1 x2):=by
 unfold Builtin.ssaWrapNilChk_;obtain⟨l⟩:=x2;rcases l with _|⟨a,_|⟨b,_|⟨c,_|⟨d,l⟩⟩⟩⟩
 .exact bH
 .exact bH
 .exact bH
 .cases b<;>try exact bH
  cases c<;>try exact bH
  cases a<;>try exact bH
  rename_i s1 s2 r;cases r with
  |some r=>exact cQ
  |none=>
   dsimp only;refine aT lK fun _=>?_
   have key:∀(o:Option aZ),Calm P Any (match o with
     |some pt=>do
      let .pointer t <-jc pt|stuck "ssa:wrapnilchk: pointer type expected"
      let .named name _:=(<-kY t).desc|stuck "ssa:wrapnilchk: defined type expected"
      let some m:=String.fromUTF8? s2|stuck "ssa:wrapnilchk: the method's name is not UTF-8"
      let base:=(name.splitOn "[").headD ""
      let targs:=if base==name then "" else "[...]"
      match ((base.splitOn "/").getLastD "").splitOn "." with
      |[_,typ]=>
       eF (.plain ("value method "++toString base++toString targs++ "."++toString m++ " called using nil *"++toString typ++toString targs++ " pointer"))
      |_=>ri (.noEntry "builtin/ssaWrapNilChk.dot in the package path")
     |_=>stuck "ssa:wrapnilchk: no argument types" : iN ak):=by
    intro o;cases o with
    |none=>exact bH
    |some pt=>
     refine aT (K.c) fun u=>?_;cases u<;>try exact bH
     refine aT (K.c) fun u=>?_;generalize u.desc=d;cases d<;>try exact bH
     dsimp only;generalize String.fromUTF8? s2=o2;cases o2<;>try exact bH
     dsimp only
     generalize String.splitOn _ "." = sp;split
     .exact K.c
     exact dO
   split
   .exact aT (K.c) fun _=>key _
   exact key _
 exact bH
instance (x0 x1 x2):K P (Builtin.ssaWrapNilChk_ x0 x1 x2):=⟨lh x0 x1 x2⟩
theorem tI(t x):Calm P Any (Instr.range t x):=by
 unfold Instr.range;refine aT (K.c) fun _=>?_
 repeat' (first|exact cQ|exact bH|exact dO|exact(Fh rfl)|exact(lJ ‹_›)|(with_reducible apply mX;exact rfl)|(with_reducible refine qJ ?_ (fun o ho=>by cases o<;>first|rfl|(revert ho;simp[fT];done)))|(refine ki (fun _ _=>?_) ?_)|(refine eT (R:=fun o=>fT o=true) ?_ (fun _ _=>?_))|(refine aT ?_ (fun _=>?_))|split|dsimp only)
instance (t x):K P (Instr.range t x):=⟨tI t x⟩
instance (x0 x1 x2 x3):K P (Instr.typeAssert x0 x1 x2 x3):=⟨by unfold Instr.typeAssert;exact bM⟩
theorem uV(x0 x1 x2 x3):Calm P Any (Instr.typeAssert x0 x1 x2 x3):=K.c
instance (x0 x1 x2):K P (movedNumber x0 x1 x2):=⟨by unfold movedNumber;exact bM⟩
instance (x0 x1 x2):K P (movedPointer x0 x1 x2):=⟨by unfold movedPointer;exact bM⟩
instance (x0 x1 x2 x3 x4 x5):K P (eqGuard x0 x1 x2 x3 x4 x5):=⟨by unfold eqGuard;exact bM⟩
theorem JM(x0 x1 x2 x3 x4 x5):Calm P Any (eqGuard x0 x1 x2 x3 x4 x5):=K.c
theorem Fp(x0 x1 x2 x3):Calm P Any (binOp x0 x1 x2 x3):=by
 unfold binOp
 all_goals exact bM
instance (x0 x1 x2 x3):K P (binOp x0 x1 x2 x3):=⟨Fp x0 x1 x2 x3⟩
theorem Ad(x0 x1 x2):Calm P Any (convert x0 x1 x2):=by
 unfold convert
 all_goals exact bM
instance (x0 x1 x2):K P (convert x0 x1 x2):=⟨Ad x0 x1 x2⟩
end
section
variable{P:aL}
theorem Vf{β:Type}{Q:β->Prop}{c:Prop}[Decidable c]{s t:iN β}(hs:Calm P Q s)(ht:Calm P Q t):Calm P Q (if c then s else t):=by
 split
 .exact hs
 exact ht
theorem Mx:J6 .env:=fun os=>⟨.strings os.env,rfl,by simp⟩
theorem Gu:Calm P Any Instr.panicnil:=by
 unfold Instr.panicnil;refine aT (?_:Calm P Any (sys .env)) fun r=>?_
 .exact⟨Mx,fun _=>trivial⟩
 split
 .exact aT jA fun _=>cQ
 exact bH
theorem tJ(x):Calm P Any (Instr.panic x):=by
 unfold Instr.panic;split
 .exact kE
 .refine aT Gu fun n=>?_;split
  .exact kE
  exact iH _
 exact bH
theorem Bf(zeros:Bool)(x0:Array aZ)(x:ak)(elem:aZ)(size o8 D5 n:Nat)(base:Option dc)(s:ak)(appended:iN (Array ak))(ha:Calm P Any appended) :
  Calm P Any (if o8+n<=D5 then do
    let new <-appended
    if let some a:=base then storeCells (a.add (o8*size)) new.toList
    pure (.slice base (o8+n) D5)
   else do
    if ((o8+n:Nat):Int)>IntKind.i64.max/\(zeros=true\/(<-kY elem).bytes=0) then eF (.error "growslice: len out of range")
    if Builtin.nextslicecap (o8+n) D5*(<-kY elem).bytes>2 ^ 48 then(if zeros=true then eF (.error "growslice: len out of range") else do
     if !(<-qc size o8 n base x) then mark .noRoom
     ri (.resourceLimit "append: a slice or a string whose bytes no memory bears"))
    let mL <-Ap (.appendCap (o8+n) D5 elem)
    askRoom (mL*(<-kY elem).bytes)
    let old <-eM size o8 s;let new <-appended;let rest:=fS (<-iY elem).cells (mL-(o8+n))
    pure (.slice (some (<-newRow elem (old++new++rest))) (o8+n) mL:ak):iN ak):=by
 repeat' (first
   |with_reducible exact ha|with_reducible exact cQ|with_reducible exact dO|with_reducible exact lK|with_reducible exact nu|with_reducible exact oQ
   |with_reducible exact iH ..|with_reducible exact jF ..|with_reducible exact nt ..|with_reducible exact Ms ..|with_reducible exact uH ..|with_reducible exact m7 ..|with_reducible exact uZ ..
   |(refine aT ?_ (fun _=>?_))|split|dsimp only)
theorem vS(x0 x1 x2):Calm P Any (ko x0 x1 x2):=by
 unfold ko;split
 .rename_i ajR s x _;refine aT (gT ..) fun u=>?_;split
  .rename_i elem;split
   .rename_i base o8 D5 _;refine aT (Mq ..) fun size=>?_
    have key:∀(zeros:Bool) (n:Nat),Calm P Any (if o8+n<=D5 then do
      let new <-(if !zeros then eM size n x else if n*size=0 then pure #[] else do pure (fS (<-iY elem).cells n):iN (Array ak))
      if let some a:=base then storeCells (a.add (o8*size)) new.toList
      pure (.slice base (o8+n) D5)
     else do
      if ((o8+n:Nat):Int)>IntKind.i64.max/\(zeros=true\/(<-kY elem).bytes=0) then eF (.error "growslice: len out of range")
      if Builtin.nextslicecap (o8+n) D5*(<-kY elem).bytes>2 ^ 48 then(if zeros=true then eF (.error "growslice: len out of range") else do
       if !(<-qc size o8 n base x) then mark .noRoom
       ri (.resourceLimit "append: a slice or a string whose bytes no memory bears"))
      let mL <-Ap (.appendCap (o8+n) D5 elem)
      askRoom (mL*(<-kY elem).bytes)
      let old <-eM size o8 (.slice base o8 D5);let new <-(if !zeros then eM size n x else if n*size=0 then pure #[] else do pure (fS (<-iY elem).cells n):iN (Array ak))
      let rest:=fS (<-iY elem).cells (mL-(o8+n))
      pure (.slice (some (<-newRow elem (old++new++rest))) (o8+n) mL:ak):iN ak):=by
     intro zeros n;refine Bf zeros x0 x elem size o8 D5 n base _ _ ?_;split
     .exact m7 ..
     split
     .exact cQ
     exact aT (nt ..) fun _=>cQ
    dsimp only
    repeat' (first
     |with_reducible exact cQ|with_reducible exact bH|with_reducible exact lK|with_reducible exact iH ..|with_reducible exact gT ..|with_reducible exact qT ..|with_reducible exact jF ..|with_reducible exact yy ..
     |exact key _ _|(with_reducible refine Vf ?_ ?_)|(refine aT ?_ (fun _=>?_))|split)
   exact bH
  exact bH
 exact bH
end
def eW:Next->Prop
 |.value _|.skip|.enter ..|.recover|.comm ..=>True
 |.round _ _ _ assign body=>dW assign=true/\dW body=true
 |.defer d|.spawn d=>pH d=true
 |_=>False
structure Vo(P:aL):Prop where
 body:∀(f:dX) (fn:Func) (c:Code),P.funcs[f]?=some fn->fn.body=some c->dW c=true
 ext:∀(f:dX) (fn:Func) (args:Array ak),P.funcs[f]?=some fn->fn.body=none->Calm P eW (fJ f args)
 name:∀(f:dX) (fn:Func),P.funcs[f]?=some fn->(fn.name == "runtime.NumGoroutine")=false
section
variable{P:aL}
theorem fD{α:Type}{Q:α->Prop}(e):Calm P Q (eF e:iN α):=by
 unfold eF
 repeat' (first
   |with_reducible exact kE|with_reducible exact jA|with_reducible exact Mv ..|with_reducible exact Mr ..|(refine aT ?_ (fun _=>?_))|split|dsimp only)
theorem JO(b ats t cs args)(hb:AV b=true):Calm P eW (builtin b ats t cs args):=by
 cases b<;>first|(exact absurd hb (by decide))|skip
 all_goals unfold builtin
 all_goals dsimp only
 all_goals first
  |exact aT (vS ..) fun _=>trivial
  |exact aT (Ai ..) fun _=>trivial
  |exact aT (wY ..) fun _=>trivial
  |exact aT (pI ..) fun _=>trivial
  |exact aT (yz ..) fun _=>trivial
  |exact aT (vR ..) fun _=>trivial
  |exact aT (Ah ..) fun _=>trivial
  |exact aT (rP ..) fun _=>trivial
  |exact aT (rO ..) fun _=>trivial
  |exact aT (tJ ..) fun _=>trivial
  |trivial
theorem r9(T:Vo P)(f args):Calm P eW (fJ f args):=by
 cases hf:P.funcs[f]? with
 |none=>
  unfold fJ;refine eT (R:=fun p=>p=P) (show P=P from rfl) ?_;rintro p rfl;rw[hf];exact bH
 |some fn=>
  cases hb:fn.body with
  |none=>exact T.ext f fn args hf hb
  |some c=>
   unfold fJ;refine eT (R:=fun p=>p=P) (show P=P from rfl) ?_;rintro p rfl;rw[hf];simp only[T.name f fn hf,hb,Option.isNone_some,bG,if_false];exact trivial
theorem qU(t x):Calm P Any (Place.get t x):=by
 cases x
 .exact cQ
 exact ui ..
theorem CJ(l t x):Calm P Any (follow l t x):=by
 induction l generalizing t x with
 |nil=>exact cQ
 |cons s l ih=>
  unfold follow
  repeat' (first
   |with_reducible exact cQ|with_reducible exact bH|with_reducible exact gT ..|with_reducible exact m6 ..|with_reducible exact qU ..|with_reducible exact Dc ..|with_reducible exact H4 ..|exact ih ..
   |(refine aT ?_ (fun _=>?_))|split)
theorem uI(a b c d):Calm P Any (receiverAt a b c d):=by
 unfold receiverAt
 repeat' (first
   |with_reducible exact cQ|with_reducible exact bH|with_reducible exact gT ..|with_reducible exact m6 ..|with_reducible exact qU ..|with_reducible exact ui ..|with_reducible exact lh ..
   |(refine aT ?_ (fun _=>?_))|split)
theorem Bc(a b c d):Calm P Any (receiverVia a b c d):=by
 unfold receiverVia;refine aT (CJ ..) fun _=>?_;exact uI ..
theorem Mt(n t v s):Calm P Any (method n t v s):=by
 induction n generalizing t v with
 |zero=>exact dO
 |succ n ih=>
  unfold method
  repeat' (first
   |with_reducible exact cQ|with_reducible exact bH|with_reducible exact iH ..|with_reducible exact jF ..|with_reducible exact CJ ..|with_reducible exact qU ..|with_reducible exact uI ..|exact ih ..
   |(refine aT ?_ (fun _=>?_))|split)
theorem Bd(l t x):Calm P Any (followBlind l t x):=by
 induction l generalizing t x with
 |nil=>exact cQ
 |cons s l ih=>
  unfold followBlind
  repeat' (first
   |with_reducible exact cQ|with_reducible exact bH|with_reducible exact gT ..|with_reducible exact H4 ..|exact ih ..
   |(refine aT ?_ (fun _=>?_))|split)
theorem Gv(n t v s):Calm P Any (nilAhead n t v s):=by
 induction n generalizing t v with
 |zero=>exact cQ
 |succ n ih=>
  unfold nilAhead
  repeat' (first
   |with_reducible exact cQ|with_reducible exact bH|with_reducible exact jF ..|with_reducible exact gT ..|with_reducible exact Bd ..|exact ih ..
   |(refine aT ?_ (fun _=>?_))|split)
theorem uJ(T:Vo P)(r n args):Calm P eW (callMethod r n args):=by
 unfold callMethod;split
 .exact aT jA fun _=>aT (Mt ..) fun _=>r9 T ..
 .exact fD _
 exact bH
theorem lU(l):Calm P (fun r=>xQ r=true) (Instr.getLoop l):=by
 unfold Instr.getLoop;refine ki (fun o ho=>?_) (mX rfl);split
 .exact ho
 exact bH
theorem OH(l args):Calm P eW (Instr.yield l args):=by
 unfold Instr.yield;refine eT (lU l) fun r hr=>?_
 have cY:dW r.assign=true/\dW r.body=true:=by
  simp only[xQ,aI] at hr;exact⟨hr.1.2,hr.2⟩
 split
 .exact aT bH fun _=>cY
 exact cY
theorem rL(T:Vo P)(t args)(ht:KX t=true):Calm P eW (invoke t args):=by
 unfold invoke;split
 .exact fD _
 .exact JO _ _ _ _ _ ht
 .exact r9 T ..
 .split
  .exact uJ T ..
  exact bH
 .split
  .refine aT (gT ..) fun _=>?_;exact uJ T ..
  exact bH
 .split
  .refine aT (Bc ..) fun _=>?_;exact r9 T ..
  exact bH
 .exact OH _ _
 .exact bH
 cases ht
theorem lT(U c t)(hc:I3 c=true):Calm P (fun d=>pH d=true) (resolve U c t):=by
 unfold resolve;unfold I3 at hc;split
 .rename_i b hb;rw[hb] at hc;exact hc
 .show pH _=true;rfl
 unfold Deferred.ofValue;split
 .show pH _=true;rfl
 .show pH _=true;rfl
 exact bH
theorem eo{s:iN ak}(h:Calm P Any s):Calm P eW (do pure (.value (<-s))):=aT h fun _=>trivial
theorem tG{s:iN Unit}(h:Calm P Any s):Calm P eW (do s;pure .skip):=aT h fun _=>trivial
theorem Mu(T:Vo P)(U o)(ho:AU o=true):Calm P eW (execOp U o):=by
 unfold AU at ho;unfold execOp;cases hop:o.op with
 |nilCheck x=>
  dsimp only
  repeat' (first|with_reducible exact fD _|with_reducible exact jA|with_reducible exact Gv ..|with_reducible exact dO|exact Fh (show eW _ from trivial)|(refine aT ?_ (fun _=>?_))|split)|call c=>
  rw[hop] at ho;exact eT (lT _ _ _ ho) fun d hd=>rL T _ _ hd
 |go c=>
  rw[hop] at ho;exact eT (lT _ _ _ ho) fun d hd=>hd
 |defer c=>
  rw[hop] at ho;exact eT (lT _ _ _ ho) fun d hd=>hd
 |recv ct ch ok=>
  dsimp only;refine aT (gT ..) fun _=>?_;split
  .exact aT (nt ..) fun _=>trivial
  exact bH
 |select cs b=>
  dsimp only;exact aT (ql (fun _=>aT (nt ..) fun _=>cQ) _) fun _=>trivial
 |pick c a b=>
  dsimp only;refine aT (Mw ..) fun _=>?_;exact trivial
 |binOp op t x y u=>exact eo (aT (JM ..) fun _=>Fp ..)
 |alloc=>exact eo (Bp ..)
 |box=>exact eo (Fq ..)
 |build=>exact eo (Bo ..)
 |buildSlice=>exact eo (uY ..)
 |load=>exact eo (Ag ..)
 |store=>exact tG (yj ..)
 |ready=>exact tG (Bh _)
 |waits=>exact eo (Bg _)
 |sliceToArrayPointer=>exact eo (yx ..)
 |makeInterface=>exact eo (si ..)
 |makeFunc=>exact eo (wV ..)
 |makeMap=>exact eo (yn ..)
 |makeChan=>exact eo (wW ..)
 |makeSlice=>exact eo (vQ ..)
 |slice=>exact eo (yl ..)
 |fieldAddr=>exact eo (yr ..)
 |field=>exact eo (Bj ..)
 |indexAddr=>exact eo (yo ..)
 |index=>exact eo (Bi ..)
 |lookup=>exact eo (Af ..)
 |mapUpdate=>exact tG (oT ..)
 |insert=>exact tG (oT ..)
 |mapEntry=>exact eo (wU ..)
 |entryStore=>exact tG (uX ..)
 |range=>exact eo (tI ..)
 |next=>exact eo (Df ..)
 |entry=>exact eo (Bl ..)
 |typeAssert=>exact eo (uV ..)
 |extract=>exact eo (yu ..)
 |panic=>exact eo (tJ ..)
 |unOp=>exact eo (Gx ..)
 |convert=>exact eo (Ad ..)
 |move|assign|send=>exact(show eW _ from trivial)
theorem Fo(fn tmps params assign body around)(ha:dW assign=true)(hb:dW body=true):Calm P (fun r=>r.2.all pH=true) (Instr.enterLoop fn tmps params assign body around):=by
 unfold Instr.enterLoop
 extract_lets jp
 have hjp:∀x:Nat × List Deferred,x.2.all pH=true->Calm P (fun r=>r.2.all pH=true) (jp x):=by
  rintro⟨d,m⟩ hm;refine aT (lJ ?_) fun _=>hm;simp[fT,xQ,ha,hb]
 clear_value jp
 split
 .exact eT (lU _) fun _ _=>hjp _ rfl
 exact aT (lJ rfl) fun _=>hjp _ rfl
theorem Dd(l):Calm P Any (Instr.beginRound l):=by
 unfold Instr.beginRound;refine eT (lU l) fun r hr=>aT (iX hr) fun _=>?_;split<;>first|exact cQ|exact iH _
theorem Gw(l jump)(hj:jump.all dW=true):Calm P Any (Instr.endRound l jump):=by
 unfold Instr.endRound;refine eT (lU l) fun r hr=>aT (iX ?_) fun _=>cQ;simp only[xQ,aI] at hr;simp[fT,xQ,hj,hr.1.2,hr.2]
theorem JN(l):Calm P (fun j:Option Code=>j.all dW=true) (Instr.endLoop l):=by
 unfold Instr.endLoop;refine eT (lU l) fun r hr=>?_
 have hp:r.pending.all dW=true:=by
  simp only[xQ,aI] at hr;exact hr.1.1
 dsimp only;split
 .exact aT (fD _) fun _=>aT (iX hr) fun _=>hp
 exact aT (iX hr) fun _=>hp
theorem Ac(l d)(hd:pH d=true):Calm P Any (Instr.deferInRound l d):=by
 unfold Instr.deferInRound;refine eT (lU l) fun r hr=>ki (fun o ho=>?_) (mX rfl);split
 .refine iX ?_;simp only[fT,dT,hd,Bool.true_and];exact ho
 .exact qQ
 exact bH
theorem Aa(b):Calm P (fun ds:List Deferred=>ds.all pH=true) (Instr.takeDeferred b):=by
 unfold Instr.takeDeferred;refine ki (fun o ho=>?_) (mX rfl);split
 .exact aT (iX rfl) fun _=>ho
 exact bH
theorem Ab(fn tmps):Calm P Any (results fn tmps):=by
 unfold results;refine aT (ql (fun r=>?_) _) fun _=>cQ;split
 .exact cQ
 exact aT (m6 ..) fun _=>ui ..
end
def dC(w:ar):Prop:=∀(b:Nat) (o:Obj),w.heap[b]?=some o->fT o=true\/o=.coro none
def Bx(B:Nat)(e:gw):Prop:=
 (∃a,e.loc=.cell a/\a.block<B)\/(∃r,e.loc=.obj r/\r<B)\/e.loc=.output\/e.loc=.mark .noRoom\/∃f,e.loc=.mark (.extern f)
theorem Bx.mono{B B':Nat}{e:gw}(h:Bx B e)(hB:B<=B'):Bx B' e:=by
 rcases h with⟨a,h1,h2⟩|⟨r,h1,h2⟩|h|h|h
 .exact .inl ⟨a,h1,by omega⟩
 .exact .inr (.inl ⟨r,h1,by omega⟩)
 .exact .inr (.inr (.inl h))
 .exact .inr (.inr (.inr (.inl h)))
 exact .inr (.inr (.inr (.inr h)))
theorem P8{w:ar}{a:dc}{v:ak}(h:w.cell? a=some v):a.block<w.heap.size:=by
 unfold World.cell? at h;rcases Nat.lt_or_ge a.block w.heap.size with hl|hl
 .exact hl
 rw[fH hl] at h;cases h
theorem eP{w:ar}{r:Nat}{o:Obj}(h:w.heap[r]?=some o):r<w.heap.size:=(ai.1 h).1
theorem DY{p:aL}{w:ar}{at_:dc}{u:aZ}{k:dc}{b:Bool}{x}(h:w.seen p at_ u k b=.ok x):at_.block<w.heap.size:=by
 unfold World.seen at h;rcases Nat.lt_or_ge at_.block w.heap.size with hl|hl
 .exact hl
 simp only[fH hl,Bind.bind,Except.bind,eX,Except.pure,throw,throwThe,MonadExceptOf.throw] at h
 repeat' (first|(split at h)|(cases h;done))
theorem LW{p:aL}{w:ar}{a:dc}{b:Bool}{v:ak}{l:List dc}(h:w.farLoad p a b=.ok (v,l)):∀x∈l,x.block<w.heap.size:=by
 unfold World.farLoad at h;split at h
 .rename_i at_ u _;unfold World.viewLoad at h;generalize hs:w.seen p at_ u a b=s at h;cases s with
  |error e=>simp only[Bind.bind,Except.bind] at h;cases h
  |ok s=>
   have hb:=DY hs;obtain⟨c,e,fz,first,like,cells⟩:=s;simp only[Bind.bind,Except.bind,eX,Except.pure] at h;generalize like.ofBytes _=o at h;cases o with
   |none=>cases h
   |some v'=>
    simp only at h;cases h;intro x hx;obtain⟨y,_,rfl⟩:=dN.1 hx;exact hb
 cases h
theorem JE{p:aL}{w w':ar}{a:dc}{v:ak}{b:Bool}{l:List dc}(h:w.farStore p a v b=.ok (w',l)) :
  (∀x∈l,x.block<w.heap.size)/\w'.heap.size=w.heap.size/\w'.tape=w.tape/\w'.drawn=w.drawn/\(dC w->dC w'):=by
 unfold World.farStore at h;split at h
 .rename_i at_ u _;unfold World.viewStore at h;generalize hs:w.seen p at_ u a b=s at h;cases s with
  |error e=>by_cases ht:tight p p.depth u<;>simp only[ht] at h<;>cases h
  |ok s=>
   have hb:=DY hs;obtain⟨c,e,fz,first,like,cells⟩:=s
   by_cases ht:tight p p.depth u
   .simp only[ht,Bind.bind,Except.bind,eX,Except.pure] at h;simp only[Bool.not_true,bG,if_false] at h;cases hv:v.bytes? with
    |none=>rw[hv] at h;cases h
    |some bytes=>
     rw[hv] at h;simp only[] at h;split at h
     all_goals
      rename_i r hr;split at hr
      .cases hr<;>cases h
      generalize (List.foldlM _ c cells:Except String (Array ak))=r' at hr;cases r'<;>cases hr<;>cases h<;>refine⟨fun x hx=>?_,by simp,rfl,rfl,fun hk b o ho=>?_⟩
      all_goals first
       |(obtain⟨y,_,rfl⟩:=dN.1 hx;exact hb)
       |(by_cases e1:at_.block=b
         .subst e1;simp only[Array.getElem?_setIfInBounds_self_of_lt hb,Option.some.injEq] at ho;subst ho;exact .inl rfl
         simp only[aC e1] at ho
         exact hk _ _ ho)
   simp only[ht] at h;cases h
 cases h
class uM where
 κ:Nat->Option Obj
structure ju[K:uM](lw w:ar):Prop where
 size:lw.heap.size=w.heap.size
 os:lw.os=w.os
 out:lw.output=w.output
 at_:∀b:Nat,lw.heap[b]?=w.heap[b]?\/(lw.heap[b]?=some (.coro none)/\∃o,w.heap[b]?=some o/\fT o=false)
 old:∀b x,K.κ b=some x->b<lw.heap.size
 kept:∀b x,K.κ b=some x->lw.heap[b]?=some (.coro none)->w.heap[b]?=some x
theorem jV{o:Obj}(h:fT o=false):(∀c t f,o≠.cells c t f)/\(∀c t,o≠.pending c t)/\(∀a t,o≠.view a t)/\o.isChan=false:=by
 cases o<;>simp_all [fT,Obj.isChan]
section
variable[uM]{lw w:ar}(V:ju lw w)
include V
theorem sJ(I d):ju lw (dB w I d):=⟨V.size,V.os,V.out,V.at_,V.old,V.kept⟩
theorem vZ(a:dc):w.cell? a=lw.cell? a:=by
 unfold World.cell?;rcases V.at_ a.block with h|⟨h1,o,h2,h3⟩
 .rw[h]
 have:=(jV h3).1;rw[h1,h2];cases o<;>simp_all
theorem M8(r:Nat):w.shape? r=lw.shape? r:=by
 unfold World.shape?;rcases V.at_ r with h|⟨h1,o,h2,h3⟩
 .rw[h]
 have:=(jV h3).1;rw[h1,h2];cases o<;>simp_all
theorem vt(a:dc):w.frozen? a=lw.frozen? a:=by
 unfold World.frozen?;rcases V.at_ a.block with h|⟨h1,o,h2,h3⟩
 .rw[h]
 have:=(jV h3).1;rw[h1,h2];cases o<;>simp_all
theorem GY(p:aL)(x u k b):w.seen p x u k b=lw.seen p x u k b:=by
 unfold World.seen;rcases V.at_ x.block with h|⟨h1,o,h2,h3⟩
 .rw[h]
 have:=(jV h3).1;rw[h1,h2];cases o<;>first|rfl|(exact absurd rfl (this _ _ _))
theorem Qr(p:aL)(a b):w.farLoad p a b=lw.farLoad p a b:=by
 unfold World.farLoad World.noCell World.viewLoad;simp only[GY V];rcases V.at_ a.block with h|⟨h1,o,h2,h3⟩
 .rw[h]
 obtain⟨h4,h5,h6,_⟩:=jV h3;rw[h1,h2];cases o<;>first|rfl|(exact absurd rfl (h5 _ _))|(exact absurd rfl (h6 _ _))
theorem SX(o:Obj):ju { lw with heap:=lw.heap.push o } { w with heap:=w.heap.push o }:=by
 refine⟨by simp[V.size],V.os,V.out,fun b=>?_,fun b x h=>by have:=V.old b x h;simp;omega,fun b x h=>?_⟩
 .simp only[ly,V.size];split
  .exact .inl rfl
  exact V.at_ b
 have h1:=V.old b x h;have h2:=V.size;simp only[ly];rw[if_neg (by omega),if_neg (by omega)];exact V.kept b x h
theorem yN(r:Nat)(o:Obj)(hk:fT o=true):ju { lw with heap:=lw.heap.setIfInBounds r o } { w with heap:=w.heap.setIfInBounds r o }:=by
 refine⟨by simp[V.size],V.os,V.out,fun b=>?_,fun b x h=>by simpa using V.old b x h,fun b x h=>?_⟩
 .by_cases e:r=b
  .subst e;left;simp only[bF,if_true,V.size]
  simp only[aC e];exact V.at_ b
 by_cases e:r=b
 .subst e;have h1:=V.old r x h;simp only[bF,if_true];rw[if_pos h1];intro h2;cases h2;cases hk
 simp only[aC e];exact V.kept b x h
theorem BM(r:Nat)(f:Obj->Obj)(hf:∀o,(∀c t z,o≠.cells c t z)->f o=o)(hf2:∀o,f o=.coro none->o=.coro none):ju { lw with heap:=lw.heap.modify r f } { w with heap:=w.heap.modify r f }:=by
 refine⟨by simp[V.size],V.os,V.out,fun b=>?_,fun b x h=>by simpa using V.old b x h,fun b x h=>?_⟩
 .simp only[pE];split
  .rename_i e;subst e;rcases V.at_ r with h|⟨h1,o,h2,h3⟩
   .rw[h];exact .inl rfl
   right;refine⟨by rw[h1];simp only[dH];rw[hf];intro c t z;exact nofun,o,by rw[h2];simp only[dH];rw[hf _ (jV h3).1],h3⟩
  exact V.at_ b
 simp only[pE];split
 .rename_i e;subst e;intro h1;obtain⟨o,h2,h3⟩:=eO.1 h1;obtain rfl:=hf2 o h3;have h4:=V.kept r x h h2;rcases V.at_ r with h5|⟨_,o,h5,h6⟩
  .rw[h2,h4] at h5;cases h5;rw[h4];simp only[dH];rw[h3]
  rw[h4] at h5;cases h5;rw[h4];simp only[dH];rw[hf _ (jV h6).1]
 exact V.kept b x h
theorem Kq(a:dc)(n:Nat):ju (lw.freeze a n) (w.freeze a n):=by
 unfold World.freeze;split
 .exact V
 exact BM V _ _ (fun o h=>by cases o<;>first|rfl|exact absurd rfl (h _ _ _)) fun o h=>by cases o<;>first|exact h|cases h
theorem Iq(a:dc)(v:ak):ju (lw.setCell a v) (w.setCell a v):=by
 unfold km;exact BM V _ _ (fun o h=>by cases o<;>first|rfl|exact absurd rfl (h _ _ _)) fun o h=>by cases o<;>first|exact h|cases h
end
theorem N8{w:ar}(h:dC w){o:Obj}(ho:fT o=true):dC { w with heap:=w.heap.push o }:=fun b x hx=>by
 simp only[ly] at hx;split at hx
 .cases hx;exact .inl ho
 exact h b x hx
theorem xY{w:ar}(h:dC w){r:Nat}{o:Obj}(ho:fT o=true):dC { w with heap:=w.heap.setIfInBounds r o }:=fun b x hx=>by
 by_cases e:r=b
 .subst e;simp only[bF,if_true] at hx;split at hx
  .cases hx;exact .inl ho
  cases hx
 simp only[aC e] at hx;exact h b x hx
theorem xo{w:ar}(h:dC w){r:Nat}{f:Obj->Obj}(hf:∀o,fT o=true->fT (f o)=true)(hk:f (.coro none)=.coro none):dC { w with heap:=w.heap.modify r f }:=fun b x hx=>by
 simp only[pE] at hx;split at hx
 .rename_i e;subst e;obtain⟨y,hy,rfl⟩:=eO.1 hx;rcases h _ _ hy with h'|rfl
  .exact .inl (hf _ h')
  exact .inr hk
 exact h b x hx
theorem Gh{w:ar}(h:dC w)(a:dc)(n:Nat):dC (w.freeze a n):=by
 unfold World.freeze;split
 .exact h
 exact xo h (fun o ho=>by cases o<;>first|exact ho|rfl) rfl
theorem EN{w:ar}(h:dC w)(a:dc)(v:ak):dC (w.setCell a v):=by
 unfold km;exact xo h (fun o ho=>by cases o<;>first|exact ho|rfl) rfl
def AW{α:Type}:Except Halt α->ar->Result α
 |.ok a,w=>.ok a w
 |.error h,w=>.halt h w
def OkR{α:Type}(Q:α->Prop):Except Halt α->Prop
 |.ok a=>Q a
 |.error h=>h≠.blocked/\h≠.waiting
structure Qe[uM](P:aL){α:Type}(Q:α->Prop)(s:iN α)(lw w eG w':ar)(k:Nat)(r:Except Halt α)(new:Array gw):Prop where
 tape:eG.tape=lw.tape
 drawn:eG.drawn=lw.drawn+k
 grows:lw.heap.size<=eG.heap.size
 ok:dC eG
 evs:∀e∈new,Bx eG.heap.size e
 tQ:ju eG w'
 res:OkR Q r
 lone:∀es,s.runT P lw es=(AW r eG,es++new)
 many:∀I d,Agree k lw.tape lw.drawn I d->∀es,s.runT P (dB w I d) es=(AW r (dB w' I (d+k)),es++new)
def Ye(P:aL){α:Type}(s:iN α)(lw:ar):Prop:=∃why eG,∀es,∃es',s.runT P lw es=(.halt (.stuck why) eG,es')
theorem Ks{c:Sys}(h:J6 c)(w:ar):∃r,(Kernel.perform c w.os=.done (r,w.os))/\w.sys c=(r,w):=by
 obtain⟨r,h1,h2⟩:=h w.os;refine⟨r,h1,?_⟩;unfold World.sys;rw[h1];cases r<;>first|rfl|exact absurd rfl h2
section
variable{P:aL}{α:Type}{Q:α->Prop}
theorem OT{k:Nat}{I I':Nat->dK->Nat}{d d':Nat}(h:Agree (k+1) I d I' d'):Agree k I (d+1) I' (d'+1):=fun i hi=>by
 have:=h (i+1) (by omega);rwa [show d+(i+1)=d+1+i by omega,show d'+(i+1)=d'+1+i by omega] at this
theorem Qe.cons[uM]{s t:iN α}{lw w ni w₁ eG w':ar}{k:Nat}{r:Except Halt α}{new:Array gw}(pre:Array gw)
  (h:Qe P Q t ni w₁ eG w' k r new) (ht:ni.tape=lw.tape) (hd:ni.drawn=lw.drawn) (hs:lw.heap.size<=ni.heap.size) (he:∀e∈pre,Bx ni.heap.size e)
  (hl:∀es,s.runT P lw es=t.runT P ni (es++pre)) (hm:∀I d es,s.runT P (dB w I d) es=t.runT P (dB w₁ I d) (es++pre)) :
  Qe P Q s lw w eG w' k r (pre++new) where
 tape:=h.tape.trans ht
 drawn:=by rw[h.drawn,hd]
 grows:=aO hs h.grows
 ok:=h.ok
 evs e hx:=by
  rcases GQ.1 hx with hx|hx
  .exact(he e hx).mono h.grows
  exact h.evs e hx
 tQ:=h.tQ
 res:=h.res
 lone es:=by rw[hl,h.lone,Array.append_assoc]
 many I d ha es:=by rw[hm,h.many I d (by rwa [ht,hd]),Array.append_assoc]
theorem Ye.cons{s t:iN α}{lw ni:ar}(pre:Array gw)(h:Ye P t ni)(hl:∀es,s.runT P lw es=t.runT P ni (es++pre)):Ye P s lw:=by
 obtain⟨why,eG,h⟩:=h;exact⟨why,eG,fun es=>by rw[hl];exact h _⟩
theorem Qe.halted[uM]{lw w:ar}{h:Halt}{s:iN α}(cY:dC lw)(V:ju lw w)(hh:h≠.blocked/\h≠.waiting)
  (hl:∀es,s.runT P lw es=(.halt h lw,es)) (hm:∀I d es,s.runT P (dB w I d) es=(.halt h (dB w I d),es)):Qe P Q s lw w lw w 0 (.error h) #[] where
 tape:=rfl
 drawn:=rfl
 grows:=ax _
 ok:=cY
 evs:=by simp
 tQ:=V
 res:=hh
 lone es:=by rw[hl];simp only[dZ];rfl
 many I d _ es:=by rw[hm];simp only[dZ];rfl
end
section
variable{P:aL}{α:Type}{Q:α->Prop}
theorem ud{B:Nat}{e:gw}(h:Bx B e):∀x∈#[e],Bx B x:=fun x hx=>by
 have:x=e:=by simpa using hx
 rw[this];exact h
theorem Hy{B:Nat}{l:List dc}{wr s:Bool}(h:∀x∈l,x.block<B):∀e∈(l.toArray.map (fun a=>(⟨.cell a,wr,s⟩:gw))),Bx B e:=fun e he=>by
 obtain⟨a,ha,rfl⟩:=Array.mem_map.1 he;exact .inl ⟨a,rfl,h a (by simpa using ha)⟩
theorem lG(m:Mode)(a:dc)(v:ak)(k:iN α)(h1:∀x,v≠.agg x)(h2:∀x,v≠.tuple x)(w:ar)(es:Array gw):(Sem.store m a v k).runT P w es =
  match w.cell? a with
  |some _=>
   if w.frozen? a then(.halt (.unsupported (.unsafePointer "a write to bytes that a string shares")) w,es)
   else k.runT P (w.setCell a v) (es.push ⟨.cell a,true,m == .atomic⟩)
  |none=>match w.farStore P a v (m == .atomic) with
   |.ok (w,tS)=>k.runT P w (es++tS.toArray.map (⟨.cell ·,true,m == .atomic⟩))
   |.error h=>(.halt h w,es):=by
 cases v<;>first|rfl|exact absurd rfl (h1 _)|exact absurd rfl (h2 _)
theorem Ex{s:String}:Halt.stuck s≠.blocked/\Halt.stuck s≠.waiting:=by constructor<;>simp
theorem I6{u:Unsupported}:Halt.unsupported u≠.blocked/\Halt.unsupported u≠.waiting:=by constructor<;>simp
def Twin(x:Nat)(W W':ar)(r r':Except String (ar × List dc)):Prop:=
 ∃r0:Except String (Obj × List dc),r=(r0.map fun y=>({ W with heap:=W.heap.setIfInBounds x y.1 },y.2))/\r'=(r0.map fun y=>({ W' with heap:=W'.heap.setIfInBounds x y.1 },y.2))/\∀y,r0=.ok y->fT y.1=true
theorem DL(p:aL)(x:dc)(u:aZ)(k:dc)(v:ak)(b:Bool)(W W':ar)(h:W'.seen p x u k b=W.seen p x u k b) :
  Twin x.block W W' (W.viewStore p x u k v b) (W'.viewStore p x u k v b):=by
 unfold World.viewStore;rw[h];generalize W.seen p x u k b=s
 by_cases ht:tight p p.depth u=true
 .simp only[ht,Bool.not_true,bG,if_false];cases s with
  |error e=>exact⟨.error e,rfl,rfl,fun _ h=>by cases h⟩
  |ok s=>
   obtain⟨c,e,fz,first,like,cells⟩:=s;cases hv:v.bytes? with
   |none=>exact⟨.error _,rfl,rfl,fun _ h=>by cases h⟩
   |some bytes=>
    by_cases hl:some bytes.length≠like.bytes?.map (·.length)
    .simp only[Bind.bind,Except.bind,eX,Except.pure];rw[if_pos hl,if_pos hl];exact⟨.error _,rfl,rfl,fun _ h=>by cases h⟩
    .simp only[Bind.bind,Except.bind,eX,Except.pure];rw[if_neg hl,if_neg hl];generalize (List.foldlM _ c cells:Except String (Array ak))=r;cases r with
     |error e=>exact⟨.error e,rfl,rfl,fun _ h=>by cases h⟩
     |ok c'=>exact⟨.ok (.cells c' e fz,_),rfl,rfl,fun _ h=>by cases h;rfl⟩
 simp only[ht];exact⟨.error _,rfl,rfl,fun _ h=>by cases h⟩
theorem Gn[uM]{lw w:ar}(V:ju lw w)(p:aL)(a:dc)(v:ak)(b:Bool) :
  (∀e,lw.farStore p a v b=.error e->w.farStore p a v b=.error e)/\(∀eG l,lw.farStore p a v b=.ok (eG,l)->∃w',w.farStore p a v b=.ok (w',l)/\ju eG w'):=by
 unfold World.farStore World.noCell;rcases V.at_ a.block with h|⟨h1,o,h2,h3⟩
 .rw[h];split
  .rename_i at_ u _;obtain⟨r,hr1,hr2,hr3⟩:=DL p at_ u a v b lw w (GY V ..);rw[hr1,hr2];cases r with
   |error e=>exact⟨fun _ h=>h,fun _ _ h=>by cases h⟩
   |ok y=>exact⟨fun _ h=>by(cases h),fun eG l hl=>by cases hl;exact⟨_,rfl,yN V _ _ (hr3 _ rfl)⟩⟩
  exact⟨fun e he=>he,fun eG l hl=>by cases hl⟩
 obtain⟨h4,h5,h6,_⟩:=jV h3;rw[h1,h2];refine⟨fun e he=>?_,fun eG l hl=>by cases hl⟩;simp only at he;cases o<;>first|exact he|(exact absurd rfl (h5 _ _))|(exact absurd rfl (h6 _ _))
theorem LV{w:ar}{p:aL}{a:dc}{what:String}:w.noCell a what≠.blocked/\w.noCell a what≠.waiting:=by
 unfold World.noCell;split<;>first|exact Ex|exact I6
theorem LX{w:ar}{p:aL}{a:dc}{b:Bool}{e:Halt}(h:w.farLoad p a b=.error e):e≠.blocked/\e≠.waiting:=by
 unfold World.farLoad at h;split at h
 .split at h
  .cases h
  cases h;exact I6
 cases h;exact LV (p:=p)
theorem JF{w:ar}{p:aL}{a:dc}{v:ak}{b:Bool}{e:Halt}(h:w.farStore p a v b=.error e):e≠.blocked/\e≠.waiting:=by
 unfold World.farStore at h;split at h
 .split at h
  .cases h
  cases h;exact I6
 cases h;exact LV (p:=p)
theorem wJ[uM]{s:iN α}(hs:Calm P Q s){lw w:ar}(cY:dC lw)(V:ju lw w):Ye P s lw\/∃eG w' k r new,Qe P Q s lw w eG w' k r new:=by
 induction s generalizing lw w with
 |pure a=>exact .inr ⟨lw,w,0,.ok a,#[],rfl,rfl,ax _,cY,by simp,V,hs,fun es=>by simp only[dZ];rfl,fun I d _ es=>by simp only[dZ];rfl⟩
 |load m a k ih=>
  cases hc:lw.cell? a with
  |some v=>
   have hw:w.cell? a=some v:=(vZ V a).trans hc;have hl:∀es,(Sem.load m a k).runT P lw es=(k v).runT P lw (es++#[⟨.cell a,false,m == .atomic⟩]):=fun es=>by rw[dF,hc];simp
   rcases ih v (hs v) cY V with h|⟨eG,w',n,r,new,h⟩
   .exact .inl (h.cons _ hl)
   exact .inr ⟨_,_,_,_,_,h.cons _ rfl rfl (ax _) (ud (.inl ⟨a,rfl,P8 hc⟩)) hl fun I d es=>by rw[dF,qP,hw];simp⟩
  |none=>
   have hw:w.cell? a=none:=(vZ V a).trans hc;have hf:=Qr V P a (m == .atomic);cases hx:lw.farLoad P a (m == .atomic) with
   |ok x=>
    obtain⟨v,l⟩:=x;rw[hx] at hf;have hl:∀es,(Sem.load m a k).runT P lw es=(k v).runT P lw (es++l.toArray.map (⟨.cell ·,false,m == .atomic⟩)):=fun es=>by rw[dF,hc];simp only[hx]
    rcases ih v (hs v) cY V with h|⟨eG,w',n,r,new,h⟩
    .exact .inl (h.cons _ hl)
    exact .inr ⟨_,_,_,_,_,h.cons _ rfl rfl (ax _) (Hy (LW hx)) hl fun I d es=>by rw[dF,qP,hw];simp only[Cw,hf]⟩
   |error e=>
    rw[hx] at hf;exact .inr ⟨_,_,_,_,_,Qe.halted cY V (LX hx) (fun es=>by rw[dF,hc];simp only[hx]) fun I d es=>by rw[dF,qP,hw];simp only[Cw,hf]⟩
 |store m a v k ih=>
  by_cases h1:∃x,v=.agg x
  .obtain⟨x,rfl⟩:=h1;exact .inr ⟨_,_,_,_,_,Qe.halted cY V Ex (fun es=>by rw[dF]) fun I d es=>by rw[dF]⟩
  by_cases h2:∃x,v=.tuple x
  .obtain⟨x,rfl⟩:=h2;exact .inr ⟨_,_,_,_,_,Qe.halted cY V Ex (fun es=>by rw[dF]) fun I d es=>by rw[dF]⟩
  have h1':∀x,v≠.agg x:=fun x e=>h1 ⟨x,e⟩;have h2':∀x,v≠.tuple x:=fun x e=>h2 ⟨x,e⟩;cases hc:lw.cell? a with
  |some v0=>
   have hw:w.cell? a=some v0:=(vZ V a).trans hc
   by_cases hz:lw.frozen? a=true
   .have hz':w.frozen? a=true:=(vt V a).trans hz
    exact .inr ⟨_,_,_,_,_,Qe.halted (h:=.unsupported (.unsafePointer "a write to bytes that a string shares")) cY V I6 (fun es=>by rw[lG _ _ _ _ h1' h2',hc];simp only[hz,if_true]) fun I d es=>by
     rw[lG _ _ _ _ h1' h2',qP,hw];simp only[yb,hz',if_true]⟩
   have hz1:lw.frozen? a=false:=by simpa using hz
   have hz':w.frozen? a=false:=(vt V a).trans hz1
   have hl:∀es,(Sem.store m a v k).runT P lw es=k.runT P (lw.setCell a v) (es++#[⟨.cell a,true,m == .atomic⟩]):=fun es=>by
    rw[lG _ _ _ _ h1' h2',hc];simp[hz1]
   have hsz:(lw.setCell a v).heap.size=lw.heap.size:=by unfold km;simp
   rcases ih hs (EN cY a v) (Iq V a v) with h|⟨eG,w',n,r,new,h⟩
   .exact .inl (h.cons _ hl)
   refine .inr ⟨_,_,_,_,_,h.cons _ rfl rfl (by omega) (ud (.inl ⟨a,rfl,by rw[hsz];exact P8 hc⟩)) hl fun I d es=>?_⟩;rw[lG _ _ _ _ h1' h2',qP,hw];simp only[yb,hz',bG,if_false,<-Array.push_eq_append];rfl
  |none=>
   have hw:w.cell? a=none:=(vZ V a).trans hc;obtain⟨hf1,hf2⟩:=Gn V P a v (m == .atomic);cases hx:lw.farStore P a v (m == .atomic) with
   |ok x=>
    obtain⟨ni,l⟩:=x;obtain⟨w₁,T7,V₁⟩:=hf2 _ _ hx;obtain⟨g1,g2,g3,g4,g5⟩:=JE hx
    have hl:∀es,(Sem.store m a v k).runT P lw es=k.runT P ni (es++l.toArray.map (⟨.cell ·,true,m == .atomic⟩)):=fun es=>by
     rw[lG _ _ _ _ h1' h2',hc];simp only[hx]
    rcases ih hs (g5 cY) V₁ with h|⟨eG,w',n,r,new,h⟩
    .exact .inl (h.cons _ hl)
    exact .inr ⟨_,_,_,_,_,h.cons _ g3 g4 (by omega) (Hy (fun x hx=>by rw[g2];exact g1 x hx)) hl fun I d es=>by
     rw[lG _ _ _ _ h1' h2',qP,hw];simp only[zN,T7]
     rfl⟩
   |error e=>
    have T7:=hf1 _ hx
    exact .inr ⟨_,_,_,_,_,Qe.halted cY V (JF hx) (fun es=>by rw[lG _ _ _ _ h1' h2',hc];simp only[hx]) fun I d es=>by
     rw[lG _ _ _ _ h1' h2',qP,hw];simp only[zN,T7]
     rfl⟩
 |new o k ih=>
  have hl:∀es,(Sem.new o k).runT P lw es=(k lw.heap.size).runT P { lw with heap:=lw.heap.push o } (es++#[]):=fun es=>by rw[dF];simp
  rcases ih lw.heap.size (hs.2 _) (N8 cY hs.1) (SX V o) with h|⟨eG,w',n,r,new,h⟩
  .exact .inl (h.cons _ hl)
  exact .inr ⟨_,_,_,_,_,h.cons _ rfl rfl (by simp) (by simp) hl fun I d es=>by rw[dF];simp only[oG,<-V.size,dZ];rfl⟩
 |shape r k ih=>
  have hl:∀es,(Sem.shape r k).runT P lw es=(k (lw.shape? r)).runT P lw (es++#[]):=fun es=>by rw[dF];simp
  rcases ih (lw.shape? r) (hs _) cY V with h|⟨eG,w',n,r',new,h⟩
  .exact .inl (h.cons _ hl)
  exact .inr ⟨_,_,_,_,_,h.cons _ rfl rfl (ax _) (by simp) hl fun I d es=>by rw[dF];simp only[QD,M8 V,dZ]⟩
 |freeze a n k ih=>
  have hl:∀es,(Sem.freeze a n k).runT P lw es=k.runT P (lw.freeze a n) (es++#[]):=fun es=>by rw[dF];simp
  have hz:(lw.freeze a n).heap.size=lw.heap.size/\(lw.freeze a n).tape=lw.tape/\(lw.freeze a n).drawn=lw.drawn:=by unfold World.freeze;split<;>simp
  rcases ih hs (Gh cY a n) (Kq V a n) with h|⟨eG,w',n',r',new,h⟩
  .exact .inl (h.cons _ hl)
  refine .inr ⟨_,_,_,_,_,h.cons _ hz.2.1 hz.2.2 (by omega) (by simp) hl fun I d es=>?_⟩;rw[dF];simp only[dZ];unfold World.freeze;split<;>rfl
 |frozen a k ih=>
  have hl:∀es,(Sem.frozen a k).runT P lw es=(k (lw.frozen? a)).runT P lw (es++#[]):=fun es=>by rw[dF];simp
  rcases ih (lw.frozen? a) (hs _) cY V with h|⟨eG,w',n,r',new,h⟩
  .exact .inl (h.cons _ hl)
  exact .inr ⟨_,_,_,_,_,h.cons _ rfl rfl (ax _) (by simp) hl fun I d es=>by rw[dF];simp only[yb,vt V,dZ]⟩
 |getObj r k ih=>
  cases hc:lw.heap[r]? with
  |none=>exact .inl ⟨_,lw,fun es=>⟨_,by rw[dF];simp only[hc];rfl⟩⟩
  |some o=>
   by_cases hcell:∃c t f,o=.cells c t f
   .obtain⟨c,t,f,rfl⟩:=hcell;exact .inl ⟨_,lw,fun es=>⟨_,by rw[dF];simp only[hc];rfl⟩⟩
   have vo:∀c t f,o≠.cells c t f:=fun c t f e=>hcell ⟨c,t,f,e⟩
   have hrun:∀(x:ar) (o':Obj),x.heap[r]?=some o'->(∀c t f,o'≠.cells c t f)->∀es,(Sem.getObj r k).runT P x es=(k o').runT P x (es++#[⟨.obj r,false,o'.isChan⟩]):=fun x o' hx hn es=>by
    rw[dF,hx];cases o'<;>first|exact absurd rfl (hn _ _ _)|(simp only[<-Array.push_eq_append])
   have hev:Bx lw.heap.size (⟨.obj r,false,o.isChan⟩:gw):=.inr (.inl ⟨r,rfl,eP hc⟩);have hl:=hrun lw o hc vo;rcases V.at_ r with hv|⟨h1,o',h2,h3⟩
   .have hw:w.heap[r]?=some o:=hv.symm.trans hc
    have ad8:Calm P Q (k o)\/FL (k o):=by
     rcases cY r o hc with ho|rfl
     .exact .inl (hs.1 o ho)
     exact hs.2.symm.imp (·.1) id
    rcases ad8 with hk|⟨why,hk⟩
    .rcases ih o hk cY V with h|⟨eG,w',n,r',new,h⟩
     .exact .inl (h.cons _ hl)
     exact .inr ⟨_,_,_,_,_,h.cons _ rfl rfl (ax _) (ud hev) hl fun I d es=>hrun (dB w I d) o hw vo es⟩
    exact .inl ⟨why,lw,fun es=>⟨_,by rw[hl,hk];rfl⟩⟩
   obtain rfl:o=.coro none:=Option.some.inj (hc.symm.trans h1);rcases hs.2 with⟨why,hk⟩|⟨hk,hk2⟩
   .exact .inl ⟨why,lw,fun es=>⟨_,by rw[hl,hk];rfl⟩⟩
   rcases ih (.coro none) hk cY V with h|⟨eG,w',n,r',new,h⟩
   .exact .inl (h.cons _ hl)
   refine .inr ⟨_,_,_,_,_,h.cons _ rfl rfl (ax _) (ud hev) hl fun I d es=>?_⟩;rw[hrun (dB w I d) o' h2 (jV h3).1 es,hk2 _ h3,(jV h3).2.2.2];rfl
 |setObj r o k ih=>
  cases hc:lw.heap[r]? with
  |none=>exact .inl ⟨_,lw,fun es=>⟨_,by rw[dF];simp only[hc];rfl⟩⟩
  |some o0=>
   by_cases hcell:∃c t f,o0=.cells c t f
   .obtain⟨c,t,f,rfl⟩:=hcell;exact .inl ⟨_,lw,fun es=>⟨_,by rw[dF];simp only[hc];rfl⟩⟩
   have vo:∀c t f,o0≠.cells c t f:=fun c t f e=>hcell ⟨c,t,f,e⟩
   have hrun:∀(x:ar) (o':Obj),x.heap[r]?=some o'->(∀c t f,o'≠.cells c t f)->∀es,(Sem.setObj r o k).runT P x es=k.runT P { x with heap:=x.heap.setIfInBounds r o } (es++#[⟨.obj r,true,o.isChan⟩]):=fun x o' hx hn es=>by
    rw[dF,hx];cases o'<;>first|exact absurd rfl (hn _ _ _)|(simp only[<-Array.push_eq_append])
   have hw:∃o',w.heap[r]?=some o'/\∀c t f,o'≠.cells c t f:=by
    rcases V.at_ r with hv|⟨h1,o',h2,h3⟩
    .exact⟨o0,hv.symm.trans hc,vo⟩
    exact⟨o',h2,(jV h3).1⟩
   obtain⟨o',hw,hn'⟩:=hw;have hl:=hrun lw o0 hc vo;rcases ih hs.2 (xY cY hs.1) (yN V r o hs.1) with h|⟨eG,w',n,r',new,h⟩
   .exact .inl (h.cons _ hl)
   exact .inr ⟨_,_,_,_,_,h.cons _ rfl rfl (by simp) (ud (.inr (.inl ⟨r,rfl,by simpa using eP hc⟩))) hl fun I d es=>hrun (dB w I d) o' hw hn' es⟩
 |choose q k ih=>
  by_cases hq:q.forced=true
  .have hl:∀es,(Sem.choose q k).runT P lw es=(k 0).runT P lw (es++#[]):=fun es=>by rw[dF];simp[hq]
   rcases ih 0 (hs 0) cY V with h|⟨eG,w',n,r,new,h⟩
   .exact .inl (h.cons _ hl)
   exact .inr ⟨_,_,_,_,_,h.cons _ rfl rfl (ax _) (by simp) hl fun I d es=>by rw[dF];simp[hq]⟩
  have hl:∀es,(Sem.choose q k).runT P lw es=(k (q.cut (lw.tape lw.drawn q))).runT P { lw with drawn:=lw.drawn+1 } es:=fun es=>by rw[dF];simp[hq]
  have V':ju { lw with drawn:=lw.drawn+1 } w:=⟨V.size,V.os,V.out,V.at_,V.old,V.kept⟩
  rcases ih (q.cut (lw.tape lw.drawn q)) (hs _) (lw:={ lw with drawn:=lw.drawn+1 }) cY V' with⟨why,eG,h⟩|⟨eG,w',n,r,new,h⟩
  .exact .inl ⟨why,eG,fun es=>by rw[hl];exact h es⟩
  refine .inr ⟨eG,w',n+1,r,new,h.tape,by rw[h.drawn];simp only[];omega,h.grows,h.ok,h.evs,h.tQ,h.res,fun es=>by rw[hl,h.lone],fun I d ha es=>?_⟩;have h0:lw.tape lw.drawn=I d:=ha 0 (by omega);have:=h.many I (d+1) (OT ha) es;rw[dF];simp only[hq,bG,if_false,zo,qh,<-h0];rw[show d+(n+1)=d+1+n by omega];exact this
 |sys c k ih=>
  obtain⟨x,hx1,hx2⟩:=Ks hs.1 lw;have hl:∀es,(Sem.sys c k).runT P lw es=(k x).runT P lw (es++#[⟨.output,true,false⟩]):=fun es=>by rw[dF,hx2];simp
  have hm:∀I d es,(Sem.sys c k).runT P (dB w I d) es=(k x).runT P (dB w I d) (es++#[⟨.output,true,false⟩]):=fun I d es=>by
   obtain⟨y,hy1,hy2⟩:=Ks hs.1 (dB w I d)
   have:y=x:=by
    simp only[ZE,<-V.os] at hy1;rw[hx1] at hy1;cases hy1;rfl
   subst this;rw[dF,hy2];simp
  rcases ih x (hs.2 x) cY V with h|⟨eG,w',n,r,new,h⟩
  .exact .inl (h.cons _ hl)
  exact .inr ⟨_,_,_,_,_,h.cons _ rfl rfl (ax _) (ud (.inr (.inr (.inl rfl)))) hl hm⟩
 |program k ih=>
  have hl:∀es,(Sem.program k).runT P lw es=(k P).runT P lw (es++#[]):=fun es=>by rw[dF];simp
  rcases ih P hs cY V with h|⟨eG,w',n,r,new,h⟩
  .exact .inl (h.cons _ hl)
  exact .inr ⟨_,_,_,_,_,h.cons _ rfl rfl (ax _) (by simp) hl fun I d es=>by rw[dF];simp⟩
 |mark m k ih=>
  have hl:∀(x:ar) es,(Sem.mark m k).runT P x es=k.runT P x (es++#[⟨.mark m,false,true⟩]):=fun x es=>by rw[dF];simp
  rcases ih hs.2 cY V with h|⟨eG,w',n,r,new,h⟩
  .exact .inl (h.cons _ (hl lw))
  refine .inr ⟨_,_,_,_,_,h.cons _ rfl rfl (ax _) (ud ?_) (hl lw) fun I d es=>hl _ es⟩;rcases hs.1 with rfl|⟨f,rfl⟩
  .exact .inr (.inr (.inr (.inl rfl)))
  exact .inr (.inr (.inr (.inr ⟨f,rfl⟩)))
 |halt h=>exact .inr ⟨_,_,_,_,_,Qe.halted cY V hs (fun es=>by rw[dF]) fun I d es=>by rw[dF]⟩
end
def iR:Item->Bool
 |.code c=>dW c
 |.inLoop c|.inScope c=>dW c
 |.inRegion aN _=>aN.all AU
 |.inBlock _|.inRangeFunc _|.endRangeFunc _|.beginRound=>true
 |.call ..|.extern ..=>false
structure dD(fr:bS):Prop where
 todo:fr.todo.all iR=true
 defers:fr.defers.all pH=true
structure Av(g:aD):Prop where
 frame:dD g.frame
 callers:∀c∈g.callers,dD c
 status:g.status=.running\/g.status=.finished
structure Quiet(P:aL):Prop extends Vo P where
 ahead:P.follows .staticDataAhead=true
 steps:∀g,P.stepOf g=none
 enters:∀todo,NoEnter P todo
structure Base[uM](lw eG w':ar)(k:Nat)(es:Array gw):Prop where
 tape:eG.tape=lw.tape
 drawn:eG.drawn=lw.drawn+k
 grows:lw.heap.size<=eG.heap.size
 ok:dC eG
 evs:∀e∈es,Bx eG.heap.size e
 tQ:ju eG w'
def Ii[uM](P:aL)(lw:ar)(s:GStep)(f:(Nat->dK->Nat)->Nat->GStep):Prop:=
 match s with
 |.ended ..=>True
 |.spawn ..=>True
 |.go g' eG es=>g'.dyingOn P\/(Av g'/\g'.dying=none/\∃w' k,Base lw eG w' k es/\∀I d,Agree k lw.tape lw.drawn I d->f I d=.go g' (dB w' I (d+k)) es)
 |.comm g' cs b sh eG es=>Av g'/\(g'.dying=none/\g'.status=.running)/\∃w' k,Base lw eG w' k es/\∀I d,Agree k lw.tape lw.drawn I d->f I d=.comm g' cs b sh (dB w' I (d+k)) es
 |_=>False
section frames
variable{fr:bS}
theorem dD.finish(h:dD fr)(v:ak):dD (fr.finish v):=by
 obtain⟨ht,hd⟩:=h;unfold Frame.finish;split
 .rename_i e;rw[e] at ht;simp only[dT,aI] at ht;refine⟨?_,hd⟩;simp only[dT,aI];exact ht
 .rename_i e;rw[e] at ht;simp only[dT,aI] at ht;refine⟨?_,hd⟩;simp only[dT,aI];exact ht
 .rename_i e;rw[e] at ht;simp only[dT,aI] at ht;exact⟨ht.2,hd⟩
 .rename_i e;rw[e] at ht;simp only[dT,aI] at ht;exact absurd ht.1 (by simp[iR])
 .rename_i e;rw[e] at ht;simp only[dT,aI] at ht;exact absurd ht.1 (by simp[iR])
 exact⟨ht,hd⟩
theorem dD.raise(h:dD fr)(c:List PanicEntry):dD (fr.raise c):=by
 unfold Frame.raise;split<;>exact⟨h.todo,h.defers⟩
theorem dD.mode(h:dD fr)(m:FrameMode):dD { fr with mode:=m }:=⟨h.todo,h.defers⟩
theorem ov{P:aL}(T:Quiet P)(f:dX)(args:Array ak)(kind:CallKind):dD (eA P f args kind):=by
 refine⟨?_,rfl⟩;unfold eA;simp only[dT,List.all_nil,Bool.and_true,iR];cases hf:P.funcs[f]? with
 |none=>rfl
 |some fn=>
  cases hb:fn.body with
  |none=>simp[hb,dW]
  |some c=>simpa [hb] using T.body f fn c hf hb
theorem xq{l:Nat}{f:dX}{tmps:Array ak}{a b:Code}(ha:dW a=true)(hb:dW b=true)(kind:CallKind):dD (Frame.round l f tmps a b kind):=by
 refine⟨?_,rfl⟩;simp[Frame.round,iR,ha,hb]
theorem Ba{id:Nat}:∀ {k k':List Item},k.all iR=true->exitTo id k=some k'->k'.all iR=true
 |[],k',_,h=>by cases h
 |x::k,k',hk,h=>by
  simp only[dT,aI] at hk;unfold exitTo at h;split at h
  .rename_i e;cases e;split at h
   .cases h;exact hk.2
   exact Ba hk.2 h
  .rename_i e;cases e;exact Ba hk.2 h
  rename_i e;cases e
theorem ub:∀ {c:Code} {l:Nat} {c':Code},dW c=true->Aw c l=some c'->dW c'=true
 |.seq a b,l,c',hc,h=>by
  simp only[dW,aI] at hc;unfold Aw at h;split at h
  .rename_i rest hr;cases h;simp only[dW,aI];exact⟨ub hc.1 hr,hc.2⟩
  exact ub hc.2 h
 |.label l',l,c',hc,h=>by
  unfold Aw at h;split at h
  .cases h;rfl
  cases h
 |.region ..,l,c',hc,h=>by unfold Aw at h;cases h
 |.cond ..,l,c',hc,h=>by unfold Aw at h;cases h
 |.block ..,l,c',hc,h=>by unfold Aw at h;cases h
 |.loop ..,l,c',hc,h=>by unfold Aw at h;cases h
 |.rangeFunc ..,l,c',hc,h=>by unfold Aw at h;cases h
 |.scope ..,l,c',hc,h=>by unfold Aw at h;cases h
 |.exit ..,l,c',hc,h=>by unfold Aw at h;cases h
 |.goto ..,l,c',hc,h=>by unfold Aw at h;cases h
 |.ret,l,c',hc,h=>by unfold Aw at h;cases h
 |.skip,l,c',hc,h=>by unfold Aw at h;cases h
 |.refuse ..,l,c',hc,h=>by unfold Aw at h;cases h
theorem A5{l:Nat}:∀ {k k':List Item},k.all iR=true->gotoIn l k=some k'->k'.all iR=true
 |[],k',_,h=>by cases h
 |x::k,k',hk,h=>by
  have hk0:=hk;simp only[dT,aI] at hk;unfold gotoIn at h;split at h
  .rename_i body k0 e;cases e;split at h
   .rename_i rest hr;cases h;simp only[dT,aI];exact⟨ub hk.1 hr,hk⟩
   exact A5 hk.2 h
  .rename_i e;cases e;exact A5 hk.2 h
  rename_i e;cases e
theorem mr:∀ {cs:List bS} {fr:bS} {v:ak} {cs':List bS},(∀c∈cs,dD c)->tryRecover fr cs=some (v,cs')->∀c∈cs',dD c
 |[],fr,v,cs',h,e=>by
  unfold tryRecover at e;split at e
  .rename_i h1;cases h1
  .rename_i h1;cases h1
  cases e
 |c0::rest,fr,v,cs',h,e=>by
  unfold tryRecover at e;split at e
  .rename_i h1;cases h1;split at e
   .cases e;intro c hc;rcases cy.1 hc with rfl|hc
    .exact(h c0 (dz ..)).mode _
    exact h c (bW _ hc)
   cases e
  .rename_i h1;cases h1;obtain⟨⟨v',r'⟩,hr,he⟩:=eO.1 e;cases he;intro c hc;rcases cy.1 hc with rfl|hc
   .exact h c (dz ..)
   exact mr (fun c hc=>h c (bW _ hc)) hr c hc
  cases e
theorem ld:∀ {cs:List bS} {l:Nat} {v:ak} {cs':List bS},(∀c∈cs,dD c)->tryRecoverLoop l cs=some (v,cs')->∀c∈cs',dD c
 |[],l,v,cs',h,e=>by cases e
 |c0::rest,l,v,cs',h,e=>by
  unfold tryRecoverLoop at e;obtain⟨⟨v',r'⟩,hr,he⟩:=eO.1 e;cases he;have zE:∀c∈rest,dD c:=fun c hc=>h c (bW _ hc);intro c hc;rcases cy.1 hc with rfl|hc
  .exact h c (dz ..)
  split at hr
  .exact ld zE hr c hc
  .split at hr
   .exact mr zE hr c hc
   exact ld zE hr c hc
  exact ld zE hr c hc
end frames
theorem mem_seen{p:aL}{fn:dX}{es:Array gw}{e:gw}(h:e∈seen p fn es):e∈es:=by
 unfold seen at h;revert h
 have:∀(l:List gw) (acc:Bool × Array gw),e∈(l.foldl (fun(x:Bool × Array gw) (e:gw)=>(match x with
   |(q,kept)=>match e.loc with
    |.mark (.extern f)=>((p.funcs[f]?).any (·.norace),kept)
    |_=>(q,if q && !e.sync then kept else kept.push e):Bool × Array gw)) acc).2->e∈acc.2\/e∈l:=by
  intro l
  induction l with
  |nil=>intro acc h;exact .inl h
  |cons x l ih=>
   intro acc h;rw[List.foldl_cons] at h;rcases ih _ h with h|h
   .obtain⟨q,kept⟩:=acc;dsimp only at h;split at h
    .exact .inl h
    dsimp only at h;split at h
    .exact .inl h
    rcases Array.mem_push.1 h with h|rfl
    .exact .inl h
    exact .inr (dz ..)
   exact .inr (bW _ h)
 intro h;dsimp only at h;rw[<-Array.foldl_toList] at h;rcases this _ _ h with h|h
 .simp at h
 simpa using h
section
variable{P:aL}{lw w:ar}
theorem Ic[uM](cY:dC lw)(V:ju lw w):Base lw lw w 0 #[]:=⟨rfl,rfl,ax _,cY,by simp,V⟩
theorem S6[uM](cY:dC lw)(V:ju lw w){g:aD}(hg:Av g)(hd:g.dying=none){f}(hf:∀I d,f I d=.go g (dB w I d) #[]):Ii P lw (.go g lw #[]) f:=
 .inr ⟨hg,hd,w,0,Ic cY V,fun I d _=>hf I d⟩
theorem Qe.base[uM]{α:Type}{Q:α->Prop}{s:iN α}{eG w':ar}{k:Nat}{r:Except Halt α}{new:Array gw}(h:Qe P Q s lw w eG w' k r new){es:Array gw}(hes:∀e∈es,e∈new):Base lw eG w' k es:=
 ⟨h.tape,h.drawn,h.grows,h.ok,fun e he=>h.evs e (hes e he),h.tQ⟩
def lx(P:aL){α:Type}(K:Result α × Array gw->GStep)(r:Except Halt α):Prop:=∀x new,(∃o y es',K (AW r x,new)=.ended o y es')\/(∃g y es',K (AW r x,new)=.go g y es'/\g.dyingOn P)\/(∃g c y es',K (AW r x,new)=.spawn g c y es')\/
   (∃g es',Av g/\g.dying=none/\(∀e∈es',e∈new)/\∀y,K (AW r y,new)=.go g y es')\/
   (∃g cs b sh es',Av g/\(g.dying=none/\g.status=.running)/\(∀e∈es',e∈new)/\∀y,K (AW r y,new)=.comm g cs b sh y es')
theorem lx.ended{α:Type}{K:Result α × Array gw->GStep}{r:Except Halt α}(h:∀x new,∃o y es',K (AW r x,new)=.ended o y es'):lx P K r:=fun x new=>.inl (h x new)
theorem lx.E5{α:Type}{K:Result α × Array gw->GStep}{r:Except Halt α}(h:∀x new,∃g y es',K (AW r x,new)=.go g y es'/\g.dyingOn P):lx P K r:=fun x new=>.inr (.inl (h x new))
theorem lx.go{α:Type}{K:Result α × Array gw->GStep}{r:Except Halt α}{g:aD}(hg:Av g)(hd:g.dying=none)(es':Array gw->Array gw)(hes:∀new e,e∈es' new->e∈new)(h:∀y new,K (AW r y,new)=.go g y (es' new)):lx P K r:=
 fun x new=>.inr (.inr (.inr (.inl ⟨g,es' new,hg,hd,hes new,fun y=>h y new⟩)))
theorem yR[uM]{α:Type}{Q:α->Prop}{s:iN α}(hs:Calm P Q s)(cY:dC lw)(V:ju lw w)(F:ar->GStep)
  (h:∃K:Result α × Array gw->GStep,(∀y,F y=K (s.runT P y #[]))/\(∀why x es,∃o es',K (.halt (.stuck why) x,es)=.ended o x es')/\∀r,OkR Q r->lx P K r) :
  Ii P lw (F lw) (fun I d=>F (dB w I d)):=by
 obtain⟨K,hrun,PX,hK⟩:=h;simp only[hrun];rcases wJ hs cY V with⟨why,eG,h⟩|⟨eG,w',k,r,new,h⟩
 .obtain⟨es,he⟩:=h #[];rw[he];obtain⟨o,es',h'⟩:=PX why eG es;rw[h'];trivial
 have hl:=h.lone #[];rw[fj] at hl;rw[hl];have hm:∀I d,Agree k lw.tape lw.drawn I d->K (s.runT P (dB w I d) #[])=K (AW r (dB w' I (d+k)),new):=fun I d ha=>by rw[h.many I d ha #[],fj]
 rcases hK r h.res eG new with⟨o,y,es',e⟩|⟨g,y,es',e,hd⟩|⟨g,c,y,es',e⟩|⟨g,es',hg,hd,hes,e⟩|⟨g,cs,b,sh,es',hg,hd,hes,e⟩
 .rw[e];trivial
 .rw[e];exact .inl hd
 .rw[e];trivial
 .rw[e eG];exact .inr ⟨hg,hd,w',k,h.base hes,fun I d ha=>(hm I d ha).trans (e _)⟩
 rw[e eG];exact⟨hg,hd,w',k,h.base hes,fun I d ha=>(hm I d ha).trans (e _)⟩
theorem zQ(fr:bS)(ahead:List ByteArray)(m:String)(whole:Bool)(w:ar):∃g y es',dieOf fr ahead m whole w=.go g y es'/\g.dyingOn P:=⟨_,_,_,rfl,.inl rfl,_,rfl,rfl,NoEnter.nil P⟩
theorem Da(fr:bS)(m:String)(w:ar):∃g y es',endThrow fr m w=.go g y es'/\g.dyingOn P:=zQ _ _ _ _ _
theorem uF(fr:bS)(cs:List bS)(d:Option Dying)(m:String)(w:ar) :
  (∃o y es',endFatal P fr cs d m w=.ended o y es')\/∃g y es',endFatal P fr cs d m w=.go g y es'/\g.dyingOn P:=by
 unfold endFatal
 extract_lets
 repeat' (first|(split)|exact .inl ⟨_,_,_,rfl⟩|exact .inr (zQ _ _ _ _ _))
theorem Mb(T:Quiet P)(fr:bS)(cs:List bS)(d:Option Dying)(g:Nat)(w:ar):∃o es',early P fr cs d g w=.ended o w es':=by
 unfold early;simp only[T.ahead,T.steps,Bool.not_true,bG,if_false];exact⟨_,_,rfl⟩
theorem fB{fr:bS}{cs:List bS}{d:Option Dying}{o}(h:dD fr)(hc:∀c∈cs,dD c):Av { frame:=fr,callers:=cs,status:=.running,dying:=d,offers:=o }:=⟨h,hc,.inl rfl⟩
theorem Dz{fr:bS}{cs:List bS}(h:dD fr)(hc:∀c∈cs,dD c):∀c∈fr::cs,dD c:=fun c hx=>by
 rcases cy.1 hx with rfl|hx
 .exact h
 exact hc c hx
theorem Gb{c:Prop}[Decidable c]{es:Array gw}{e:gw}(h:e∈(if c then #[] else es)):e∈es:=by
 split at h
 .simp at h
 exact h
theorem sW{es:Array gw}{p:aL}{fn:dX}{c:Prop}[Decidable c]{e:gw}(h:e∈seen p fn (if c then #[] else es)++#[]):e∈es:=by
 rw[dZ] at h;exact Gb (mem_seen h)
theorem mem_row{es:Array gw}{p:aL}{fn:dX}{c:Prop}[Decidable c]:∀e,e∈seen p fn (if c then #[] else es)++#[]->e∈es:=fun e=>sW
theorem wM[uM](T:Quiet P){fr:bS}{cs:List bS}(hfr:dD fr)(hcs:∀c∈cs,dD c){s:iN Next}(hs:Calm P eW s)(cY:dC lw)(V:ju lw w) :
  Ii P lw (ep P true fr cs none s lw) (fun I d=>ep P true fr cs none s (dB w I d)):=by
 refine yR hs cY V (fun y=>ep P true fr cs none s y) ⟨?K,fun y=>?_,?_,?_⟩
 rotate_left
 .unfold ep;simp only[if_true];generalize s.runT P y #[]=x;exact rfl
 .intro why x es;exact⟨_,_,rfl⟩
 .intro r hr;cases r with
  |ok n=>
   cases n with
   |value v=>exact lx.go (fB (hfr.finish v) hcs) rfl _ (fun _=>mem_row) fun y new=>rfl
   |skip=>exact lx.go (fB (hfr.finish undef) hcs) rfl _ (fun _=>mem_row) fun y new=>rfl
   |enter f args=>exact lx.go (fB (ov T f args _) (Dz hfr hcs)) rfl _ (fun _=>mem_row) fun y new=>rfl
   |round l f tmps a b=>exact lx.go (fB (xq hr.1 hr.2 _) (Dz hfr hcs)) rfl _ (fun _=>mem_row) fun y new=>rfl
   |defer d=>exact lx.go (fB (dD.finish (fr:={ fr with defers:=d::fr.defers }) ⟨hfr.todo,by rw[dT,hfr.defers,Bool.and_true];exact hr⟩ undef) hcs) rfl _ (fun _=>mem_row) fun y new=>rfl
   |recover=>
    intro x new
    have key:∀X:Option (ak × List bS),(∀v cs',X=some (v,cs')->∀c∈cs',dD c)->∀es:Array gw,(∀e∈es++#[],e∈new)->
      ∃g es',Av g/\g.dying=none/\(∀e∈es',e∈new)/\∀y,BH es (match X with
       |some (v,callers)=>GStep.go { frame:=fr.finish v,callers,status:=.running,dying:=none } y
       |none=>GStep.go { frame:=fr.finish .nilIface,callers:=cs,status:=.running,dying:=none } y)=.go g y es':=by
     intro X hX es hes;cases X with
     |none=>exact⟨_,_,fB (hfr.finish .nilIface) hcs,rfl,hes,fun y=>rfl⟩
     |some z=>exact⟨_,_,fB (hfr.finish z.1) (hX z.1 z.2 rfl),rfl,hes,fun y=>rfl⟩
    refine .inr (.inr (.inr (.inl ?_)));cases hro:fr.roundOf with
    |none=>
     simp only[AW,hro];exact key (tryRecover fr cs) (fun v cs' e=>mr hcs e) _ fun e=>sW
    |some l=>
     by_cases hf:P.follows .rangeFuncRecover=true
     .simp only[AW,hro,hf,if_true];exact key (tryRecover fr cs) (fun v cs' e=>mr hcs e) _ fun e=>sW
     simp only[AW,hro,hf,if_false];exact key (tryRecoverLoop l cs) (fun v cs' e=>ld hcs e) _ fun e=>sW
   |comm c b sh=>exact fun x new=>.inr (.inr (.inr (.inr ⟨_,_,_,_,_,fB hfr hcs,⟨rfl,rfl⟩,fun e=>sW,fun y=>rfl⟩)))
   |spawn d=>
    intro x new;dsimp only[AW];generalize (P.follows .goNilFatal&&_&&d.args.isEmpty&&fr.noResult P)=c;cases c with
    |true=>
     obtain⟨g,y,es',e,hd⟩:=Da (P:=P) fr "go of nil func value" x;exact .inr (.inl ⟨g,y,_,by rw[if_pos rfl,e];rfl,hd⟩)
    |false=>exact .inr (.inr (.inl ⟨_,_,_,_,rfl⟩))
   |_=>exact hr.elim
  |error h=>
   cases h with
   |panic v=>exact lx.go (fB (hfr.raise _) hcs) rfl _ (fun _=>mem_row) fun y new=>rfl
   |goexit=>exact lx.go (fB (hfr.raise _) hcs) rfl _ (fun _=>mem_row) fun y new=>rfl
   |blocked=>exact absurd rfl hr.1
   |waiting=>exact absurd rfl hr.2
   |exit c=>exact lx.ended fun x new=>⟨_,_,_,rfl⟩
   |fatal m=>
    intro x new;dsimp only[AW];rcases uF (P:=P) fr cs none m x with⟨o,y,es',e⟩|⟨g,y,es',e,hd⟩
    .rw[e];exact .inl ⟨_,_,_,rfl⟩
    rw[e];exact .inr (.inl ⟨_,_,_,rfl,hd⟩)
   |throw m=>exact lx.E5 fun x new=>⟨_,_,_,rfl,.inl rfl,_,rfl,rfl,NoEnter.nil P⟩
   |unsupported u=>
    intro x new;dsimp only[AW];cases u with
    |initOrder g=>
     dsimp only;obtain⟨o,es',e⟩:=Mb T fr cs none g x;rw[e];exact .inl ⟨_,_,_,rfl⟩
    |_=>exact .inl ⟨_,_,_,rfl⟩
   |stuck s=>exact lx.ended fun x new=>⟨_,_,_,rfl⟩
end
section
variable{P:aL}{lw w:ar}
theorem xr(T:Quiet P){fr:bS}{cs:List bS}(hfr:dD fr)(hcs:∀c∈cs,dD c)(v:ak) :
  (∃g,Av g/\g.dying=none/\∀y,uu P true fr cs none v y=.go g y #[])\/(∀y,∃o,uu P true fr cs none v y=.ended o y #[]):=by
 cases cs with
 |cons c rest=>
  have hc:=hcs c (dz ..);have zE:∀c∈rest,dD c:=fun x hx=>hcs x (bW _ hx);cases hk:fr.kind with
  |normal=>exact .inl ⟨_,fB (hc.finish v) zE,rfl,fun y=>by simp only[uu,hk];rfl⟩
  |wrapped=>exact .inl ⟨_,fB (hc.finish v) zE,rfl,fun y=>by simp only[uu,hk];rfl⟩
  |early=>exact .inl ⟨_,fB hc zE,rfl,fun y=>by simp only[uu,hk];rfl⟩
  |_=>
   refine .inl ⟨_,fB ?_ zE,rfl,fun y=>by simp only[uu,hk];rfl⟩;split
   .split<;>exact hc.mode _
   exact hc
 |nil=>
  have key:fr.kind≠.report->∀y,uu P true fr [] none v y=(match P.inits.idxOf? fr.fn with
    |some k=>.go { frame:=eA P (P.initFrom (k+1)) #[] .normal,callers:=[],status:=.running,dying:=none } y
    |none=>.ended (.done v) y):=fun hk y=>by
   unfold uu;cases qZ:fr.kind<;>first|exact absurd qZ hk|rfl
  by_cases hk:fr.kind=.report
  .exact .inr fun y=>⟨.stuck "report: Error or String returned no string" "",by obtain⟨fn,tmps,todo,defers,mode,kind,roundOf⟩:=fr;simp only at hk;subst hk;cases v<;>rfl⟩
  .cases hi:P.inits.idxOf? fr.fn with
   |some k=>exact .inl ⟨_,fB (cs:=[]) (ov T _ _ _) (by simp),rfl,fun y=>by rw[key hk,hi]⟩
   |none=>exact .inr fun y=>⟨_,by rw[key hk,hi]⟩
theorem zP[uM](T:Quiet P){fr:bS}{cs:List bS}(hfr:dD fr)(hcs:∀c∈cs,dD c){s:iN ak}(hs:Calm P Any s)(cY:dC lw)(V:ju lw w)(F:ar->GStep)
  (h:∃K:Result ak × Array gw->GStep,(∀y,F y=K (s.runT P y #[]))/\(∀v es,∃es',(∀e∈es'++#[],e∈es)/\∀x,K (.ok v x,es)=.after es' (uu P true fr cs none v x))/\(∀h x es,∃o es',K (.halt h x,es)=.ended o x es')) :
  Ii P lw (F lw) (fun I d=>F (dB w I d)):=by
 obtain⟨K,h1,h2,h3⟩:=h;refine yR hs cY V F ⟨K,h1,fun why x es=>h3 _ x es,fun r hr=>?_⟩;cases r with
 |error h=>exact lx.ended fun x new=>by obtain⟨o,es',e⟩:=h3 h x new;exact⟨_,_,_,e⟩
 |ok v=>
  intro x new;rcases xr T hfr hcs v with⟨g,hg,hgd,e⟩|e
  .refine .inr (.inr (.inr (.inl ?_)));obtain⟨es',he,e2⟩:=h2 v new;exact⟨g,_,hg,hgd,he,fun y=>by rw[show AW (.ok v) y=.ok v y from rfl,e2,e];rfl⟩
  obtain⟨o,e⟩:=e x;obtain⟨es',he,e2⟩:=h2 v new;exact .inl ⟨o,x,_,by rw[show AW (.ok v) x=.ok v x from rfl,e2,e];rfl⟩
theorem fP{es:Array gw}{p:aL}{fn:dX}:∀e,e∈seen p fn es++#[]->e∈es:=fun e h=>by
 rw[dZ] at h;exact mem_seen h
theorem Bq[uM](T:Quiet P){fr:bS}{cs:List bS}(hfr:dD fr)(hcs:∀c∈cs,dD c){d:Deferred}(hd:pH d=true)(cY:dC lw)(V:ju lw w) :
  Ii P lw (callDeferred P fr cs none d lw) (fun I d'=>callDeferred P fr cs none d (dB w I d')):=by
 by_cases hn:((d.target matches .nil)&&(fr.mode matches .panicking _))=true
 .have:∀y,∃o,callDeferred P fr cs none d y=.ended o y #[]:=fun y=>⟨_,by unfold callDeferred;exact if_pos hn⟩
  obtain⟨o,e⟩:=this lw;rw[e];trivial
 refine yR (rL T.toVo d.target d.args hd) cY V (fun y=>callDeferred P fr cs none d y) ⟨?K,fun y=>?_,?_,?_⟩
 rotate_left
 .unfold callDeferred;refine(if_neg hn).trans ?_;generalize (invoke d.target d.args).runT P y #[]=x;exact rfl
 .intro why x es;exact⟨_,_,rfl⟩
 .intro r hr;cases r with
  |ok n=>
   cases n with
   |enter f args=>exact lx.go (fB (ov T f args _) (Dz hfr hcs)) rfl _ (fun _=>fP) fun y new=>rfl
   |round l f tmps a b=>exact lx.go (fB (xq hr.1 hr.2 _) (Dz hfr hcs)) rfl _ (fun _=>fP) fun y new=>rfl
   |recover=>
    intro x new;refine .inr (.inr (.inr (.inl ?_)));cases hm:fr.mode with
    |returning=>
     cases ht:tryRecover fr cs with
     |none=>exact⟨_,_,fB hfr hcs,rfl,fP,fun y=>by simp only[AW,hm,ht];rfl⟩
     |some z=>exact⟨_,_,fB hfr (mr (v:=z.1) (cs':=z.2) hcs ht),rfl,fP,fun y=>by simp only[AW,hm,ht];rfl⟩
    |_=>exact⟨_,_,fB hfr hcs,rfl,fP,fun y=>by simp only[AW,hm];rfl⟩
   |value v=>exact lx.go (fB hfr hcs) rfl _ (fun _=>fP) fun y new=>rfl
   |skip=>exact lx.go (fB hfr hcs) rfl _ (fun _=>fP) fun y new=>rfl
   |defer d=>exact lx.go (fB hfr hcs) rfl _ (fun _=>fP) fun y new=>rfl
   |comm c b sh=>exact lx.go (fB hfr hcs) rfl _ (fun _=>fP) fun y new=>rfl
   |spawn d=>exact lx.go (fB hfr hcs) rfl _ (fun _=>fP) fun y new=>rfl
   |_=>exact hr.elim
  |error h=>
   cases h with
   |panic v=>exact lx.go (fB (hfr.raise _) hcs) rfl _ (fun _=>fP) fun y new=>rfl
   |goexit=>exact lx.go (fB (hfr.raise _) hcs) rfl _ (fun _=>fP) fun y new=>rfl
   |blocked=>exact absurd rfl hr.1
   |waiting=>exact absurd rfl hr.2
   |exit c=>exact lx.ended fun x new=>⟨_,_,_,rfl⟩
   |fatal m=>
    intro x new;dsimp only[AW];rcases uF (P:=P) fr cs none m x with⟨o,y,es',e⟩|⟨g,y,es',e,hd⟩
    .rw[e];exact .inl ⟨_,_,_,rfl⟩
    rw[e];exact .inr (.inl ⟨_,_,_,rfl,hd⟩)
   |throw m=>exact lx.E5 fun x new=>⟨_,_,_,rfl,.inl rfl,_,rfl,rfl,NoEnter.nil P⟩
   |unsupported u=>exact lx.ended fun x new=>⟨_,_,_,rfl⟩
   |stuck s=>exact lx.ended fun x new=>⟨_,_,_,rfl⟩
theorem qd[uM]{g:aD}(cY:dC lw)(V:ju lw w)(hg:Av g)(hgd:g.dying=none)(F:ar->GStep)(h:∀y,F y=.go g y #[]):Ii P lw (F lw) (fun I d=>F (dB w I d)):=by
 rw[h lw];exact S6 cY V hg hgd fun I d=>h _
theorem lO[uM](F:ar->GStep)(h:∀y,∃o y' es,F y=.ended o y' es):Ii P lw (F lw) (fun I d=>F (dB w I d)):=by
 obtain⟨o,y',es,e⟩:=h lw;rw[e];trivial
theorem FZ[uM](F:ar->GStep)(h:(∃o y' es,F lw=.ended o y' es)\/∃g y es,F lw=.go g y es/\g.dyingOn P):Ii P lw (F lw) (fun I d=>F (dB w I d)):=by
 rcases h with⟨o,y',es,e⟩|⟨g,y,es,e,hd⟩
 .rw[e];trivial
 rw[e];exact .inl hd
theorem M9[uM](T:Quiet P){fr:bS}{cs:List bS}(hfr:dD fr)(hcs:∀c∈cs,dD c)(cY:dC lw)(V:ju lw w) :
  Ii P lw (lY P true fr cs none lw) (fun I d=>lY P true fr cs none (dB w I d)):=by
 obtain⟨ft,fd⟩:=hfr;obtain⟨fn,tmps,todo,defers,mode,kind,roundOf⟩:=fr;simp only at ft fd;cases defers with
 |cons d ds=>
  simp only[dT,aI] at fd;obtain⟨target,args⟩:=d;cases target with
  |collected block=>
   refine yR (P:=P) (Aa block) cY V (fun y=>lY P true _ cs none y) ⟨?K,fun y=>?_,?_,?_⟩
   rotate_left
   .unfold lY;dsimp only;generalize (Instr.takeDeferred block).runT P y #[]=x;exact rfl
   .intro why x es;exact⟨_,_,rfl⟩
   .intro r hr;cases r with
    |ok calls=>exact lx.go (fB ⟨ft,by show(calls++ds).all pH=true;rw[List.all_append,fd.2,Bool.and_true];exact hr⟩ hcs) rfl _ (fun _=>fP) fun y new=>rfl
    |error h=>exact lx.ended fun x new=>⟨_,_,_,rfl⟩
  |_=>exact Bq T (fr:=⟨fn,tmps,todo,ds,mode,kind,roundOf⟩) ⟨ft,fd.2⟩ hcs fd.1 cY V
 |nil=>
  cases mode with
  |run=>exact lO (fun y=>lY P true _ cs none y) fun y=>⟨_,_,_,rfl⟩
  |panicking chain=>
   by_cases hc:(Frame.catches P ⟨fn,tmps,todo,[],.panicking chain,kind,roundOf⟩)=true
   .exact lO (fun y=>lY P true _ cs none y) fun y=>⟨_,_,_,by unfold lY;simp only[hc,if_true];rfl⟩
   .cases cs with
    |cons c rest=>
     exact qd cY V (fB ((hcs c (dz ..)).raise chain) fun x hx=>hcs x (bW _ hx)) rfl (fun y=>lY P true _ _ none y) fun y=>by unfold lY;simp only[hc];rfl
    |nil=>
     by_cases hg:(chain.head?.any (·.goexit))=true
     .exact qd (g:=⟨⟨fn,tmps,todo,[],.panicking chain,kind,roundOf⟩,[],.finished,none,none⟩) cY V ⟨⟨ft,rfl⟩,by simp,.inr rfl⟩ rfl (fun y=>lY P true _ _ none y) fun y=>by unfold lY;simp only[hc,hg,if_true];rfl
     refine FZ (fun y=>lY P true _ [] none y) ?_;unfold lY;simp only[hc,hg,if_false,bG];split
     .exact .inr ⟨_,_,_,rfl,.inl rfl,_,rfl,rfl,T.enters _⟩
     .exact .inl ⟨_,_,_,rfl⟩
     exact .inl ⟨_,_,_,rfl⟩
  |returning=>
   cases hf:P.funcs[fn]? with
   |none=>
    rcases xr T (fr:=⟨fn,tmps,todo,[],.returning,kind,roundOf⟩) ⟨ft,rfl⟩ hcs (tmps.getD 0 undef) with⟨g,hg,hgd,e⟩|e
    .exact qd cY V hg hgd (fun y=>lY P true _ cs none y) fun y=>by unfold lY;simp only[hf];exact e y
    exact lO (fun y=>lY P true _ cs none y) fun y=>by
     obtain⟨o,e⟩:=e y;exact⟨o,y,#[],by unfold lY;simp only[hf];exact e⟩
   |some fn'=>
    refine zP T (fr:=⟨fn,tmps,todo,[],.returning,kind,roundOf⟩) ⟨ft,rfl⟩ hcs (Ab fn' tmps) cY V (fun y=>lY P true _ cs none y) ⟨?K2,fun y=>?_,?_,?_⟩
    rotate_left
    .unfold lY;simp only[hf];generalize (results fn' tmps).runT P y #[]=x;exact rfl
    .intro v es;exact⟨_,fP,fun x=>rfl⟩
    intro h x es;cases h<;>exact⟨_,_,rfl⟩
end
section
variable{P:aL}{lw w:ar}
theorem Py{x:Item}{l:List Item}(h:(x::l).all iR=true):iR x=true/\l.all iR=true:=by
 simpa only[dT,aI] using h
theorem QO[uM](T:Quiet P){fr:bS}{cs:List bS}(hfr:dD fr)(hcs:∀c∈cs,dD c)(cY:dC lw)(V:ju lw w){l:Nat}(jump:Option Code)(hj:jump.all dW=true)(F:ar->GStep)
  (h:∃K:Result ak × Array gw->GStep,(∀y,F y=K ((Instr.endRound l jump).runT P y #[]))/\(∀v es,∃es',(∀e∈es'++#[],e∈es)/\∀x,K (.ok v x,es)=.after es' (uu P true fr cs none v x))/\(∀h x es,∃o es',K (.halt h x,es)=.ended o x es')) :
  Ii P lw (F lw) (fun I d=>F (dB w I d)):=zP T hfr hcs (Gw l jump hj) cY V F h
theorem Tw[uM](T:Quiet P){fr:bS}{cs:List bS}(hfr:dD fr)(hcs:∀c∈cs,dD c)(cY:dC lw)(V:ju lw w) :
  Ii P lw (fg P true fr cs none lw) (fun I d=>fg P true fr cs none (dB w I d)):=by
 cases ho:fr.oper? with
 |none=>exact lO (fun y=>fg P true fr cs none y) fun y=>⟨_,_,_,by unfold fg;rw[ho]⟩
 |some o=>
  have hoo:AU o=true:=by
   unfold Frame.oper? at ho;split at ho
   .rename_i aN i rest k e;have:=hfr.todo;rw[e] at this;have h1:=(Py this).1;simp only[iR,Array.all_eq_true] at h1;obtain⟨hi,rfl⟩:=ai.1 ho;exact h1 i hi
   cases ho
  have gen:∀y,(∀c l,fr.roundOf=some l->o.op≠.defer c)->fg P true fr cs none y=ep P true fr cs none (execOp fr.eval o) y:=fun y hn=>by
   unfold fg;rw[ho];cases hr:fr.roundOf with
   |none=>rfl
   |some l=>
    dsimp only;split
    .rename_i e1 e2;exact absurd e2 (hn _ _ hr)
    rfl
  by_cases hd:∃c l,fr.roundOf=some l/\o.op=.defer c
  .obtain⟨c,l,hr,hop⟩:=hd
   have e:∀y,fg P true fr cs none y=ep P true fr cs none (do Instr.deferInRound l (<-resolve fr.eval c o.type);pure .skip) y:=fun y=>by
    unfold fg;rw[ho];simp only[hr,hop]
   simp only[e];refine wM T hfr hcs ?_ cY V
   have hc:I3 c=true:=by
    unfold AU at hoo;rw[hop] at hoo;exact hoo
   exact eT (lT _ _ _ hc) fun d hd=>aT (Ac l d hd) fun _=>trivial
  have hn:∀c l,fr.roundOf=some l->o.op≠.defer c:=fun c l h1 h2=>hd ⟨c,l,h1,h2⟩;simp only[fun y=>gen y hn];exact wM T hfr hcs (Mu T.toVo _ _ hoo) cY V
theorem QC[uM]{s:GStep}{f}(h:Ii P lw s f){es:Array gw}(he:∀e∈es,Bx lw.heap.size e):Ii P lw (BH es s) (fun I d=>BH es (f I d)):=by
 cases s with
 |ended=>trivial
 |spawn=>trivial
 |go g' eG es'=>
  rcases h with h|⟨hg,hgd,w',k,hb,hf⟩
  .exact .inl h
  refine .inr ⟨hg,hgd,w',k,⟨hb.tape,hb.drawn,hb.grows,hb.ok,fun e hx=>?_,hb.tQ⟩,fun I d ha=>by dsimp only;rw[hf I d ha];rfl⟩;rcases GQ.1 hx with hx|hx
  .exact(he e hx).mono hb.grows
  exact hb.evs e hx
 |comm g' cs b sh eG es'=>
  obtain⟨hg,hd,w',k,hb,hf⟩:=h;refine⟨hg,hd,w',k,⟨hb.tape,hb.drawn,hb.grows,hb.ok,fun e hx=>?_,hb.tQ⟩,fun I d ha=>by dsimp only;rw[hf I d ha];rfl⟩;rcases GQ.1 hx with hx|hx
  .exact(he e hx).mono hb.grows
  exact hb.evs e hx
 |_=>exact h.elim
theorem wN{a b:Nat}{I I':Nat->dK->Nat}{d d':Nat}(h:Agree (a+b) I d I' d'):Agree a I d I' d'/\Agree b I (d+a) I' (d'+a):=
 ⟨h.le (by omega),fun i hi=>by have:=h (a+i) (by omega);rwa [<-qX,<-qX] at this⟩
theorem QB[uM]{eG:ar}{s:GStep}{f f'}{n:Nat}(h:Ii P eG s f')(ht:eG.tape=lw.tape)(hd:eG.drawn=lw.drawn+n)(hs:lw.heap.size<=eG.heap.size)
  (hf:∀I d,Agree n lw.tape lw.drawn I d->f I d=f' I (d+n)):Ii P lw s f:=by
 cases s with
 |ended=>trivial
 |spawn=>trivial
 |go g' ZO es'=>
  rcases h with h|⟨hg,hgd,w',k,hb,hf'⟩
  .exact .inl h
  refine .inr ⟨hg,hgd,w',n+k,⟨hb.tape.trans ht,by rw[hb.drawn,hd];omega,aO hs hb.grows,hb.ok,hb.evs,hb.tQ⟩,fun I d ha=>?_⟩;obtain⟨h1,h2⟩:=wN ha;rw[hf I d h1,hf' I (d+n) (by rw[ht,hd];exact h2),qX]
 |comm g' cs b sh ZO es'=>
  obtain⟨hg,M0,w',k,hb,hf'⟩:=h;refine⟨hg,M0,w',n+k,⟨hb.tape.trans ht,by rw[hb.drawn,hd];omega,aO hs hb.grows,hb.ok,hb.evs,hb.tQ⟩,fun I d ha=>?_⟩;obtain⟨h1,h2⟩:=wN ha;rw[hf I d h1,hf' I (d+n) (by rw[ht,hd];exact h2),qX]
 |_=>exact h.elim
theorem UT[uM](T:Quiet P){fr:bS}{cs:List bS}(hfr:dD fr)(hcs:∀c∈cs,dD c)(cY:dC lw)(V:ju lw w) :
  Ii P lw (cC P true true fr cs none lw) (fun I d=>cC P true true fr cs none (dB w I d)):=by
 have hfr0:=hfr;obtain⟨ft,fd⟩:=hfr;obtain⟨fn,tmps,todo,defers,mode,kind,roundOf⟩:=fr;simp only at ft fd
 have leave:∀(jump:Option Code),jump.all dW=true->∀F:ar->GStep,(∀y,F y=(match (generalizing:=false) roundOf with
   |none=>if jump matches none|some .ret then .go { frame:={ fn:=fn,tmps:=tmps,todo:=todo,defers:=defers,mode:=.returning,kind:=kind,roundOf:=roundOf },callers:=cs,status:=.running,dying:=none } y
     else .ended (.stuck "exit, goto: no such block or label" (Frame.pos P ⟨fn,tmps,todo,defers,mode,kind,roundOf⟩)) y
   |some l=>
    let (r,es):=(Instr.endRound l jump).runT P y #[]
    BH (seen P fn es) <| match r with
    |.ok v w=>uu P true ⟨fn,tmps,todo,defers,mode,kind,roundOf⟩ cs none v w
    |.halt _ w=>.ended (.stuck "range over a function: no such loop" (Frame.pos P ⟨fn,tmps,todo,defers,mode,kind,roundOf⟩)) w))->
   Ii P lw (F lw) (fun I d=>F (dB w I d)):=by
  intro jump hj F hF;cases roundOf with
  |none=>
   by_cases hm:(match (generalizing:=false) jump with|none|some .ret=>true|_=>false)=true
   .exact qd cY V (fB (fr:={ fn:=fn,tmps:=tmps,todo:=todo,defers:=defers,mode:=.returning,kind:=kind,roundOf:=none }) ⟨ft,fd⟩ hcs) rfl F fun y=>(hF y).trans (if_pos hm)
   exact lO F fun y=>⟨_,_,_,(hF y).trans (if_neg hm)⟩
  |some l=>
   refine QO T hfr0 hcs cY V (l:=l) jump hj F ⟨?K,fun y=>?_,?_,?_⟩
   rotate_left
   .rw[hF y];dsimp only;generalize (Instr.endRound l jump).runT P y #[]=x;exact rfl
   .intro v es;exact⟨_,fP,fun x=>rfl⟩
   intro h x es;exact⟨_,_,rfl⟩
 have to:∀(t:List Item),t.all iR=true->∀F:ar->GStep,(∀y,F y=.go { frame:={ fn:=fn,tmps:=tmps,todo:=t,defers:=defers,mode:=mode,kind:=kind,roundOf:=roundOf },callers:=cs,status:=.running,dying:=none } y #[])->
   Ii P lw (F lw) (fun I d=>F (dB w I d)):=fun t ht F hF=>qd cY V (fB ⟨ht,fd⟩ hcs) rfl F hF
 have ended:∀F:ar->GStep,(∀y,∃o y' es,F y=.ended o y' es)->Ii P lw (F lw) (fun I d=>F (dB w I d)):=fun F hF=>lO F hF;cases todo with
 |nil=>exact leave none rfl (fun y=>cC P true true _ cs none y) fun y=>rfl
 |cons x k=>
  obtain⟨hx,hk⟩:=Py ft;have cons:∀(y:Item) (l:List Item),iR y=true->l.all iR=true->(y::l).all iR=true:=fun y l h1 h2=>by rw[dT,h1,h2];rfl
  cases x with
  |inBlock id=>exact to k hk (fun y=>cC P true true _ cs none y) fun y=>rfl
  |inScope body=>exact to k hk (fun y=>cC P true true _ cs none y) fun y=>rfl
  |inLoop body=>exact to _ (cons (.code body) _ hx (cons (.inLoop body) _ hx hk)) (fun y=>cC P true true _ cs none y) fun y=>rfl
  |inRegion aN l=>
   cases l with
   |nil=>exact to k hk (fun y=>cC P true true _ cs none y) fun y=>rfl
   |cons i rest=>
    by_cases hw:(((aN[i]?).map (Region.wanted · (yielded aN tmps))).getD false)=true
    .have e:∀y,cC P true true ⟨fn,tmps,.inRegion aN (i::rest)::k,defers,mode,kind,roundOf⟩ cs none y=fg P true ⟨fn,tmps,.inRegion aN (i::rest)::k,defers,mode,kind,roundOf⟩ cs none y:=fun y=>if_pos hw;simp only[e];exact Tw T hfr0 hcs cY V
    exact qd cY V (fB (hfr0.finish undef) hcs) rfl (fun y=>cC P true true _ cs none y) fun y=>if_neg hw
  |inRangeFunc l=>exact ended (fun y=>cC P true true _ cs none y) fun y=>⟨_,_,_,rfl⟩
  |endRangeFunc l=>
   refine yR (P:=P) (JN l) cY V (fun y=>cC P true true _ cs none y) ⟨?K1,fun y=>?_,?_,?_⟩
   rotate_left
   .unfold cC;dsimp only;generalize (Instr.endLoop l).runT P y #[]=x;exact rfl
   .intro why x es;exact⟨_,_,rfl⟩
   .intro r hr;cases r with
    |ok jump=>
     have ht:((jump.map Item.code).toList++k).all iR=true:=by
      rw[List.all_append,hk,Bool.and_true];cases jump with
      |none=>rfl
      |some c=>
       have:dW c=true:=hr;simp[iR,this]
     exact lx.go (fB (fr:={ fn:=fn,tmps:=tmps,todo:=(jump.map Item.code).toList++k,defers:=defers,mode:=mode,kind:=kind,roundOf:=roundOf }) ⟨ht,fd⟩ hcs) rfl _ (fun _=>fP) fun y new=>rfl
    |error h=>
     cases h with
     |panic v=>exact lx.go (fB (hfr0.raise _) hcs) rfl _ (fun _=>fP) fun y new=>rfl
     |_=>exact lx.ended fun x new=>⟨_,_,_,rfl⟩
  |beginRound=>
   refine wM T hfr0 hcs ?_ cY V;cases roundOf with
   |none=>exact aT (bH (Q:=Any)) fun _=>trivial
   |some l=>exact aT (Dd l) fun _=>trivial
  |call d a b c=>exact absurd hx (by simp[iR])
  |extern r a=>exact absurd hx (by simp[iR])
  |code c=>
   have hc:dW c=true:=hx;cases c with
   |ret=>exact leave (some .ret) rfl (fun y=>cC P true true _ cs none y) fun y=>rfl
   |skip=>exact to k hk (fun y=>cC P true true _ cs none y) fun y=>rfl
   |label l=>exact to k hk (fun y=>cC P true true _ cs none y) fun y=>rfl
   |seq a b=>
    simp only[dW,aI] at hc;exact to _ (cons (.code a) _ hc.1 (cons (.code b) _ hc.2 hk)) (fun y=>cC P true true _ cs none y) fun y=>rfl
   |cond c t e=>
    simp only[dW,aI] at hc
    by_cases hb:∃b,Frame.eval ⟨fn,tmps,.code (.cond c t e)::k,defers,mode,kind,roundOf⟩ c=.bool b
    .obtain⟨b,hb⟩:=hb
     have e:∀y,cC P true true ⟨fn,tmps,.code (.cond c t e)::k,defers,mode,kind,roundOf⟩ cs none y=.go { frame:={ fn:=fn,tmps:=tmps,todo:=.code (if b then t else e)::k,defers:=defers,mode:=mode,kind:=kind,roundOf:=roundOf },callers:=cs,status:=.running,dying:=none } y #[]:=fun y=>by
      unfold cC;simp only[hb]
     exact to _ (cons _ _ (by cases b;exact hc.2;exact hc.1) hk) (fun y=>cC P true true _ cs none y) e
    refine ended (fun y=>cC P true true _ cs none y) fun y=>⟨.stuck "cond: bool expected" (Frame.pos P ⟨fn,tmps,.code (.cond c t e)::k,defers,mode,kind,roundOf⟩),y,#[],?_⟩
    unfold cC;dsimp only;split
    .rename_i b hb';exact absurd ⟨b,hb'⟩ hb
    exact rfl
   |block id body=>exact to _ (cons (.code body) _ hc (cons (.inBlock id) _ rfl hk)) (fun y=>cC P true true _ cs none y) fun y=>rfl
   |loop body=>exact to _ (cons (.code body) _ hc (cons (.inLoop body) _ hc hk)) (fun y=>cC P true true _ cs none y) fun y=>rfl
   |scope body=>exact to _ (cons (.code body) _ hc (cons (.inScope body) _ hc hk)) (fun y=>cC P true true _ cs none y) fun y=>rfl
   |exit id=>
    cases he:exitTo id k with
    |none=>exact leave (some (.exit id)) rfl (fun y=>cC P true true _ cs none y) fun y=>by unfold cC;simp only[he];rfl
    |some k'=>exact to k' (Ba hk he) (fun y=>cC P true true _ cs none y) fun y=>by unfold cC;simp only[he];rfl
   |goto l=>
    cases he:gotoIn l k with
    |none=>exact leave (some (.goto l)) rfl (fun y=>cC P true true _ cs none y) fun y=>by unfold cC;simp only[he];rfl
    |some k'=>exact to k' (A5 hk he) (fun y=>cC P true true _ cs none y) fun y=>by unfold cC;simp only[he];rfl
   |refuse why=>exact ended (fun y=>cC P true true _ cs none y) fun y=>⟨_,_,_,rfl⟩
   |region id aN draw=>
    cases draw with
    |false=>exact to _ (cons (.inRegion aN _) _ hc hk) (fun y=>cC P true true _ cs none y) fun y=>rfl
    |true=>
     have e:∀y:ar,cC P true true ⟨fn,tmps,.code (.region id aN true)::k,defers,mode,kind,roundOf⟩ cs none y =
       .go { frame:={ fn:=fn,tmps:=tmps,todo:=.inRegion aN (Region.schedule (P.follows .mixedOrders) aN (y.tape y.drawn (.order fn id)))::k,defers:=defers,mode:=mode,kind:=kind,roundOf:=roundOf },callers:=cs,status:=.running,dying:=none } { y with drawn:=y.drawn+1 } #[]:=fun y=>rfl
     rw[e lw];refine .inr ⟨fB (fr:={ fn:=fn,tmps:=tmps,todo:=.inRegion aN _::k,defers:=defers,mode:=mode,kind:=kind,roundOf:=roundOf }) ⟨cons (.inRegion aN _) _ hc hk,fd⟩ hcs,rfl,w,1,⟨rfl,rfl,ax _,cY,by simp,⟨V.size,V.os,V.out,V.at_,V.old,V.kept⟩⟩,fun I d ha=>?_⟩;dsimp only;rw[e];have h0:lw.tape lw.drawn=I d:=ha 0 (by omega);rw[h0];rfl
   |rangeFunc f params assign body=>
    simp only[dW,aI] at hc
    have Ht:∀x:bS,Calm P eW (do let d <-resolve x.eval { callee:=.value f,args:=#[.const (.func (.yield (0:Nat)) #[] #[])],argTypes:=#[] } 0;invoke d.target d.args):=fun x=>
     eT (lT _ _ _ rfl) fun d hd=>rL T.toVo _ _ hd
    rcases wJ (Fo (P:=P) fn tmps params assign body roundOf hc.1 hc.2) cY V with⟨why,eG,h⟩|⟨eG,w',n,r,new,h⟩
    .obtain⟨es,he⟩:=h #[]
     have:∃o es',cC P true true ⟨fn,tmps,.code (.rangeFunc f params assign body)::k,defers,mode,kind,roundOf⟩ cs none lw=.ended o eG es':=by
      unfold cC;simp only[he];exact⟨_,_,rfl⟩
     obtain⟨o,es',e⟩:=this;rw[e];trivial
    .cases r with
     |error hh=>
      have:∃o es',cC P true true ⟨fn,tmps,.code (.rangeFunc f params assign body)::k,defers,mode,kind,roundOf⟩ cs none lw=.ended o eG es':=by
       unfold cC;simp only[h.lone #[]];exact⟨_,_,rfl⟩
      obtain⟨o,es',e⟩:=this;rw[e];trivial
     |ok z=>
      obtain⟨l,mark⟩:=z;have hm:mark.all pH=true:=h.res;have ahE:dD ⟨fn,tmps,.inRangeFunc l::k,mark++defers,mode,kind,roundOf⟩:=⟨cons (.inRangeFunc l) _ rfl hk,by show(mark++defers).all pH=true;rw[List.all_append,hm,fd];rfl⟩
      have key:∀(y y':ar) (new:Array gw),(Instr.enterLoop fn tmps params assign body roundOf).runT P y #[]=(.ok (l,mark) y',new)->cC P true true ⟨fn,tmps,.code (.rangeFunc f params assign body)::k,defers,mode,kind,roundOf⟩ cs none y =
        BH (seen P fn new) (ep P true ⟨fn,tmps,.inRangeFunc l::k,mark++defers,mode,kind,roundOf⟩ cs none (do let d <-resolve (Frame.eval ⟨fn,tmps,.inRangeFunc l::k,mark++defers,mode,kind,roundOf⟩) { callee:=.value f,args:=#[.const (.func (.yield l) #[] #[])],argTypes:=#[] } 0;invoke d.target d.args) y'):=fun y y' new e=>by
       rw[cC];dsimp only;rw[e]
      have hl:=h.lone #[];rw[fj] at hl;rw[key lw eG new hl];have inner:=wM (lw:=eG) (w:=w') T ahE hcs (s:=(do let d <-resolve (Frame.eval ⟨fn,tmps,.inRangeFunc l::k,mark++defers,mode,kind,roundOf⟩) { callee:=.value f,args:=#[.const (.func (.yield l) #[] #[])],argTypes:=#[] } 0;invoke d.target d.args)) (eT (lT _ _ _ rfl) fun d hd=>rL T.toVo _ _ hd) h.ok h.tQ;refine QB (QC inner (es:=seen P fn new) fun e he=>h.evs e (mem_seen he)) h.tape h.drawn h.grows fun I d ha=>?_;have hm2:=h.many I d ha #[];rw[fj] at hm2;exact key _ _ _ hm2
theorem Hb[uM](T:Quiet P){g:aD}(hg:Av g)(hd:g.dying=none)(cY:dC lw)(V:ju lw w) :
  Ii P lw (fo P true g lw) (fun I d=>fo P true g (dB w I d)):=by
 obtain⟨fr,cs,st,dy,off⟩:=g;simp only at hd;subst hd;obtain⟨hf,hc,_⟩:=hg;cases hm:fr.mode with
 |run=>
  have e:∀y,fo P true ⟨fr,cs,st,none,off⟩ y=cC P true true fr cs none y:=fun y=>by unfold fo;simp only[hm]
  simp only[e];exact UT T hf hc cY V
 |_=>
  have e:∀y,fo P true ⟨fr,cs,st,none,off⟩ y=lY P true fr cs none y:=fun y=>by unfold fo;simp only[hm]
  simp only[e];exact M9 T hf hc cY V
end
end Go.Lag
namespace Go.Lag
open Go.Conc
def lL(gs:Array aD):Prop:=∀g∈gs,g.status≠.blocked
theorem mC{gs:Array aD}(h:lL gs)(r:Nat)(b:Bool):partners gs r b=[]:=by
 unfold partners;rw[List.flatMap_eq_nil_iff];rintro⟨g,i⟩ hx
 have hg:g∈gs:=by
  have:(g,i)∈gs.toList.zipIdx:=by simpa using hx
  exact Array.mem_toList_iff.1 (List.fst_mem_of_mem_zipIdx this)
 have:=h g hg;dsimp only;split
 .rename_i e _;exact absurd e this
 rfl
theorem GV{gs:Array aD}(h:lL gs)(w:ar)(c:mU):ways w gs c=ways w #[] c:=by
 unfold ways;simp only[mC h,mC (gs:=#[]) (by intro g hg;simp at hg)]
theorem Qp[uM]{lw w:ar}(V:ju lw w)(c:mU):ways w #[] c=ways lw #[] c:=by
 unfold ways;split
 .rename_i r _;rcases V.at_ r with h|⟨h1,o,h2,h3⟩
  .rw[h]
  rw[h1,h2]
  have:∀cap buf cl s r tm,o≠.chan cap buf cl s r tm:=by
   intro cap buf cl s r tm e;subst e;cases h3
  cases o<;>first|rfl|exact absurd rfl (this _ _ _ _ _ _)
 rfl
theorem Kk(w:ar)(c:mU):ways w #[] c=[]\/ways w #[] c=[.sendClosed]\/ways w #[] c=[.buffer]\/ways w #[] c=[.closed]:=by
 unfold ways;have e:∀r b,partners #[] r b=[]:=fun r b=>mC (by intro g hg;simp at hg) r b;simp only[e];split
 .split
  .split
   .simp
   split<;>simp
  .split
   .simp
   split<;>simp
  simp
 simp
theorem Qq{w:ar}{c:mU}(h:ways w #[] c≠[]):∃r cap buf cl s rc tm,c.chan=.chan (some r)/\w.heap[r]?=some (Obj.chan cap buf cl s rc tm):=by
 unfold ways at h;split at h
 .rename_i r hr;split at h
  .rename_i h1 _;exact⟨r,_,_,_,_,_,_,hr,h1⟩
  .rename_i h1 _;exact⟨r,_,_,_,_,_,_,hr,h1⟩
  exact absurd rfl h
 exact absurd rfl h
theorem Nq{P:aL}(ready:List (Nat × mU × List Way))(h1:∀y∈ready,y.2.2.length=1)(hne:ready≠[])(w:ar) :
  (do
   let a <-Ap (.select ready.length);let (k,c,ws):=ready.getD a (0,default,[])
   let b <-Ap (.extern "which waiting goroutine is the partner" ws.length)
   pure (k,c,ws.getD b .closed):iN (Nat × mU × Way)).run P w =
  (if ready.length<=1 then .ok ((ready.getD 0 (0,default,[])).1,(ready.getD 0 (0,default,[])).2.1,(ready.getD 0 (0,default,[])).2.2.getD 0 .closed) w
   else .ok ((ready.getD (w.tape w.drawn (.select ready.length) % ready.length) (0,default,[])).1,(ready.getD (w.tape w.drawn (.select ready.length) % ready.length) (0,default,[])).2.1,(ready.getD (w.tape w.drawn (.select ready.length) % ready.length) (0,default,[])).2.2.getD 0 .closed) { w with drawn:=w.drawn+1 }):=by
 have hl:0<ready.length:=dm.2 hne
 have key:∀a,a<ready.length->(ready.getD a (0,default,[])).2.2.length=1:=fun a ha=>by
  rw[List.getD_eq_getElem?_getD,fK ha];exact h1 _ (bV ha)
 by_cases hn:ready.length<=1
 .rw[if_pos hn];have:=key 0 hl;simp only[Ap,bind,Sem.bind,Sem.run,Question.forced,hn,decide_true,if_true,this];simp[pure,Sem.run]
 rw[if_neg hn];have:=key (w.tape w.drawn (.select ready.length) % ready.length) (Nat.mod_lt _ hl);simp only[Ap,bind,Sem.bind,Sem.run,Question.forced,hn,decide_false,Question.cut];simp only[bG,if_false,this];simp[pure,Sem.run]
def VF(B:Nat)(op:MemOp):Prop:=op.g=0/\∃r n m,r<B/\(op.act=.send r n\/op.act=.sendDone r n\/op.act=.recv r n m\/op.act=.recvDone r n\/op.act=.recvClosed r)
theorem any_congr{f f':mU->Bool}(h:∀c,f c=f' c)(cs:Array mU):cs.any f=cs.any f':=by rw[funext h]
theorem uw{rest:Rest}(h:rest.timers = #[])(cs:Array mU)(w:ar):waitingAt rest cs w=some w:=by
 unfold waitingAt
 have:timerAhead rest w.os.mono cs=false:=by
  unfold timerAhead;rw[h];rw[Array.any_eq_false];intro i hi;split<;>simp
 rw[this];rfl
section
variable{P:aL}{lw w:ar}
structure Ym[uM](P:aL)(g:aD)(cs:Array mU)(b:Bool)(sh:CommShape)(lw w:ar)(aN:Array MemOp)(g':aD)(eG w':ar)(k:Nat):Prop where
 gok:Av g'
 dy:g'.dying=none
 run:g'.status=.running
 base:Base lw eG w' k #[]
 lists:∀op∈aN,VF lw.heap.size op
 many:∀(gs:Array aD) (rest:Rest),lL gs->rest.timers = #[]->∀I d,Agree k lw.tape lw.drawn I d->mP P rest gs 0 g cs b sh (dB w I d)=(.next { world:=dB w' I (d+k),gs:=gs.setIfInBounds 0 g',rest:=rest },aN)
theorem Mi[uM](T:Quiet P){d0:aD}(hd0:d0.status≠.blocked){rest0:Rest}(Jm:rest0.timers = #[])(cY:dC lw)(V:ju lw w)
  {g:aD} (hg:Av g) (hgd:g.dying=none) (hgr:g.status=.running) {cs:Array mU} {b:Bool} {sh:CommShape} {m':Machine} {aN:Array MemOp} (hl:mP P rest0 #[d0] 0 g cs b sh lw=(.next m',aN)) :
  ∃g' eG,m'={ world:=eG,gs:=#[g'],rest:=rest0 }/\(g'.status=.blocked\/∃w' k,Ym P g cs b sh lw w aN g' eG w' k):=by
 have Xu:lL #[d0]:=by intro x hx;simp at hx;rw[hx];exact hd0
 have e0:∀c,ways lw #[d0] c=ways lw #[] c:=fun c=>GV Xu lw c;have e1:∀(gs:Array aD) (qH:lL gs) I d c,ways (dB w I d) gs c=ways lw #[] c:=fun gs qH I d c=>(GV qH _ c).trans (Qp (sJ V I d) c);unfold mP at hl
 extract_lets put illMade me other ready pick at hl
 have hrw:∀y∈ready,y.2.2.length=1:=by
  intro y hy;obtain⟨h1,h2⟩:=fQ.1 hy;obtain⟨⟨c,k⟩,hc,rfl⟩:=dN.1 h1;dsimp only at h2 ⊢;rcases Kk lw c with h|h|h|h<;>rw[e0,h] at h2 ⊢<;>first|rfl|simp at h2
 split at hl
 .cases hl
 rename_i aam;have LB:∀(I:Nat->dK->Nat) (d:Nat) (f:mU->Bool),(∀c,f c=illMade c)->¬cs.any f=true:=fun I d f hf hc=>aam ((any_congr (fun c=>(hf c).symm) cs).trans hc)
 by_cases YE:ready.isEmpty=true
 .
  have far:∀(gs:Array aD) (rest:Rest) (qH:lL gs) (ht:rest.timers = #[]) I d,mP P rest gs 0 g cs b sh (dB w I d) =
    if b=true then(.next { world:=dB w I d,gs:=gs.setIfInBounds 0 { g with status:=.blocked,offers:=some (cs,sh) },rest:=rest },#[])
    else(.next { world:=dB w I d,gs:=gs.setIfInBounds 0 (g.finishComm P cs sh (-1) undef false),rest:=rest },#[]):=by
   intro gs rest qH ht I d;unfold mP
   extract_lets put' zD I1 ready' pick'
   have hr:ready'=ready:=by simp only[ready,ready',e0,e1 gs qH]
   refine(if_neg (LB I d _ fun c=>?_)).trans ?_
   .simp only[illMade,zD];split
    .rfl
    .rename_i r _;rcases(sJ V I d).at_ r with h|⟨h1,o,h2,h3⟩
     .rw[h]
     rw[h1,h2];cases o<;>first|rfl|cases h3
    rfl
   rw[hr,if_pos YE,uw ht]
  rw[if_pos YE,uw Jm] at hl;cases b with
  |true=>
   simp only[if_true] at hl;cases hl;exact⟨_,_,rfl,.inl rfl⟩
  |false=>
   simp only[bG,if_false,put] at hl;cases hl;exact⟨_,_,rfl,.inr ⟨w,0,⟨⟨hg.frame.finish _,hg.callers,.inl rfl⟩,hgd,rfl,Ic cY V,by simp,fun gs rest qH ht I d _=>by rw[far gs rest qH ht];rfl⟩⟩⟩
 have hne:ready≠[]:=by simpa using YE
 have Xo:∃n y,y∈ready/\pick.run P lw=.ok (y.1,y.2.1,y.2.2.getD 0 .closed) { lw with drawn:=lw.drawn+n }/\∀x:ar,(∀i,i<n->x.tape (x.drawn+i)=lw.tape (lw.drawn+i))->pick.run P x=.ok (y.1,y.2.1,y.2.2.getD 0 .closed) { x with drawn:=x.drawn+n }:=by
  have hr:=fun x=>Nq (P:=P) ready hrw hne x;have hl0:0<ready.length:=dm.2 hne
  have hin:∀a,a<ready.length->ready.getD a (0,default,[])∈ready:=fun a ha=>by
   rw[List.getD_eq_getElem?_getD,fK ha];exact bV ha
  by_cases hn:ready.length<=1
  .refine⟨0,ready.getD 0 (0,default,[]),hin 0 hl0,?_,fun x _=>?_⟩
   .exact(hr lw).trans (if_pos hn)
   exact(hr x).trans (if_pos hn)
  refine⟨1,ready.getD (lw.tape lw.drawn (.select ready.length) % ready.length) (0,default,[]),hin _ (Nat.mod_lt _ hl0),?_,fun x hx=>?_⟩
  .exact(hr lw).trans (if_neg hn)
  have h0:x.tape x.drawn=lw.tape lw.drawn:=hx 0 (by omega);refine(hr x).trans ((if_neg hn).trans ?_);rw[h0]
 obtain⟨n,y,hy,hp,hpx⟩:=Xo;rw[if_neg YE,hp] at hl
 have J8:y.2.2=ways lw #[] y.2.1:=by
  obtain⟨h1,_⟩:=fQ.1 hy;obtain⟨⟨c,k⟩,hc,rfl⟩:=dN.1 h1;exact e0 c
 obtain⟨k,c,ws⟩:=y;dsimp only at J8 hl hp hpx
 obtain⟨r,cap,buf,cl,aK,acE,tm,hcc,hh⟩:=Qq (w:=lw) (c:=c) (by
  intro e;have:=hrw _ hy;dsimp only at this;rw[J8,e] at this
  cases this)
 have hh2:w.heap[r]?=some (Obj.chan cap buf cl aK acE tm):=by
  rcases V.at_ r with h'|⟨h',_⟩
  .rw[<-h'];exact hh
  rw[hh] at h';cases h'
 have hb:∀ni w₁:ar,ni.tape=lw.tape->ni.drawn=lw.drawn+n->ni.heap.size=lw.heap.size->dC ni->ju ni w₁->Base lw ni w₁ n #[]:=fun ni w₁ h1 h2 h3 h4 h5=>⟨h1,h2,by omega,h4,by simp,h5⟩
 have hgf:∀k v o,Av (g.finishComm P cs sh k v o):=fun k v o=>⟨hg.frame.finish _,hg.callers,.inl rfl⟩
 simp only[hcc,hh] at hl;rcases Kk lw c with hw|hw|hw|hw
 .exfalso;have:=hrw _ hy;dsimp only at this;rw[J8,hw] at this;cases this
 .
  have hw1:ws.getD 0 .closed=.sendClosed:=by rw[J8,hw];rfl
  rw[hw1] at hl;dsimp only at hl;have V1:ju { lw with drawn:=lw.drawn+n } w:=⟨V.size,V.os,V.out,V.at_,V.old,V.kept⟩
  rcases wJ (iH (P:=P) (.plain "send on closed channel")) (lw:={ lw with drawn:=lw.drawn+n }) (w:=w) cY V1 with⟨why,eG,h⟩|⟨eG,w',n2,r2,new,h⟩
  .obtain⟨es',he⟩:=h #[]
   have:(eF (.plain "send on closed channel"):iN Unit).run P { lw with drawn:=lw.drawn+n }=.halt (.stuck why) eG:=by
    have e:=congrArg Prod.fst he;rwa [Sem.runT_eq] at e
   rw[this] at hl;cases hl
  .have h1:(eF (.plain "send on closed channel"):iN Unit).run P { lw with drawn:=lw.drawn+n }=AW r2 eG:=by
    have e:=congrArg Prod.fst (h.lone #[]);rwa [Sem.runT_eq] at e
   rw[h1] at hl;cases r2 with
   |ok u=>cases hl
   |error hh0=>
    cases hh0 with
    |panic v=>
     simp only[AW,put] at hl;cases hl;refine⟨_,_,rfl,.inr ⟨w',n+n2,⟨hg.frame.raise _,hg.callers,hg.status⟩,hgd,?_,⟨h.tape,by rw[h.drawn];simp only[];omega,h.grows,h.ok,by simp,h.tQ⟩,by simp,fun gs rest qH ht I d ha=>?_⟩⟩
     .exact hgr
     obtain⟨ha,ha2⟩:=wN ha
     have h2:(eF (.plain "send on closed channel"):iN Unit).run P (dB w I (d+n))=.halt (.panic v) (dB w' I (d+n+n2)):=by
      have e:=congrArg Prod.fst (h.many I (d+n) ha2 #[]);rwa [Sem.runT_eq] at e
     unfold mP
     extract_lets put' zD I1 ready' pick'
     have hr:ready'=ready:=by simp only[ready,ready',e0,e1 gs qH]
     refine(if_neg (LB I d _ fun c=>?_)).trans ?_
     .simp only[illMade,zD];split
      .rfl
      .rename_i r _;rcases(sJ V I d).at_ r with h|⟨h1,o,h2,h3⟩
       .rw[h]
       rw[h1,h2];cases o<;>first|rfl|cases h3
      rfl
     rw[hr,if_neg YE]
     have hp':pick'.run P (dB w I d)=.ok (k,c,ws.getD 0 .closed) (dB w I (d+n)):=by
      have:pick'=pick:=by simp only[pick,pick',hr]
      rw[this];exact hpx (dB w I d) fun i hi=>(ha i hi).symm
     rw[hp',hw1];simp only[hcc,oG,hh2];simp only[h2,qX];rfl
    |_=>cases hl
 .have hw1:ws.getD 0 .closed=.buffer:=by rw[J8,hw];rfl
  rw[hw1] at hl;cases hsend:c.send with
  |some v=>
   simp only[hsend,put] at hl;cases hl;refine⟨_,_,rfl,.inr ⟨{ w with heap:=w.heap.setIfInBounds r _ },n,hgf ..,hgd,rfl,hb _ _ rfl rfl (by simp) (xY (w:={ lw with drawn:=lw.drawn+n }) cY rfl) (yN (lw:={ lw with drawn:=lw.drawn+n }) ⟨V.size,V.os,V.out,V.at_,V.old,V.kept⟩ _ _ rfl),?_,fun gs rest qH ht I d ha=>?_⟩⟩
   .intro op hop;simp only[eY,cy,gO,or_false] at hop;rcases hop with rfl|rfl<;>exact⟨rfl,r,aK,0,eP hh,by simp[me]⟩
   unfold mP
   extract_lets put' zD I1 ready' pick'
   have hr:ready'=ready:=by simp only[ready,ready',e0,e1 gs qH]
   refine(if_neg (LB I d _ fun c=>?_)).trans ?_
   .simp only[illMade,zD];split
    .rfl
    .rename_i r _;rcases(sJ V I d).at_ r with h|⟨h1,o,h2,h3⟩
     .rw[h]
     rw[h1,h2];cases o<;>first|rfl|cases h3
    rfl
   rw[hr,if_neg YE]
   have hp':pick'.run P (dB w I d)=.ok (k,c,ws.getD 0 .closed) (dB w I (d+n)):=by
    have:pick'=pick:=by simp only[pick,pick',hr]
    rw[this];exact hpx (dB w I d) fun i hi=>(ha i hi).symm
   rw[hp',hw1];simp only[hcc,oG,hh2];simp only[hsend];rfl
  |none=>
   simp only[mC Xu] at hl;simp only[hsend,put] at hl;cases hl;refine⟨_,_,rfl,.inr ⟨{ w with heap:=w.heap.setIfInBounds r _ },n,hgf ..,hgd,rfl,hb _ _ rfl rfl (by simp) (xY (w:={ lw with drawn:=lw.drawn+n }) cY rfl) (yN (lw:={ lw with drawn:=lw.drawn+n }) ⟨V.size,V.os,V.out,V.at_,V.old,V.kept⟩ _ _ rfl),?_,fun gs rest qH ht I d ha=>?_⟩⟩
   .intro op hop;simp only[eY,cy,gO,or_false] at hop;rcases hop with rfl|rfl<;>exact⟨rfl,r,acE,cap,eP hh,by simp[me]⟩
   unfold mP
   extract_lets put' zD I1 ready' pick'
   have hr:ready'=ready:=by simp only[ready,ready',e0,e1 gs qH]
   refine(if_neg (LB I d _ fun c=>?_)).trans ?_
   .simp only[illMade,zD];split
    .rfl
    .rename_i r _;rcases(sJ V I d).at_ r with h|⟨h1,o,h2,h3⟩
     .rw[h]
     rw[h1,h2];cases o<;>first|rfl|cases h3
    rfl
   rw[hr,if_neg YE]
   have hp':pick'.run P (dB w I d)=.ok (k,c,ws.getD 0 .closed) (dB w I (d+n)):=by
    have:pick'=pick:=by simp only[pick,pick',hr]
    rw[this];exact hpx (dB w I d) fun i hi=>(ha i hi).symm
   rw[hp',hw1];simp only[hcc,oG,hh2];simp only[hsend,mC qH];rfl
 have hw1:ws.getD 0 .closed=.closed:=by rw[J8,hw];rfl
 rw[hw1] at hl;dsimp only at hl;simp only[put] at hl;cases hl;refine⟨_,_,rfl,.inr ⟨w,n,hgf ..,hgd,rfl,hb _ _ rfl rfl rfl cY ⟨V.size,V.os,V.out,V.at_,V.old,V.kept⟩,?_,fun gs rest qH ht I d ha=>?_⟩⟩
 .intro op hop;simp only[eY,cy,gO,or_false] at hop;subst hop;exact⟨rfl,r,0,0,eP hh,by simp[me]⟩
 unfold mP
 extract_lets put' zD I1 ready' pick'
 have hr:ready'=ready:=by simp only[ready,ready',e0,e1 gs qH]
 refine(if_neg (LB I d _ fun c=>?_)).trans ?_
 .simp only[illMade,zD];split
  .rfl
  .rename_i r _;rcases(sJ V I d).at_ r with h|⟨h1,o,h2,h3⟩
   .rw[h]
   rw[h1,h2];cases o<;>first|rfl|cases h3
  rfl
 rw[hr,if_neg YE]
 have hp':pick'.run P (dB w I d)=.ok (k,c,ws.getD 0 .closed) (dB w I (d+n)):=by
  have:pick'=pick:=by simp only[pick,pick',hr]
  rw[this];exact hpx (dB w I d) fun i hi=>(ha i hi).symm
 rw[hp',hw1];simp only[hcc,oG,hh2];rfl
end
def xw(B:Nat)(aN:Array MemOp):Prop:=∀op∈aN,op.g=0/\op.act.low B/\op.act≠.mark .disable/\op.act≠.mark .enable
theorem xw.app{B:Nat}{a b:Array MemOp}(ha:xw B a)(hb:xw B b):xw B (a++b):=fun op h=>(GQ.1 h).elim (ha op) (hb op)
theorem tX{B:Nat}{es:Array gw}(h:∀e∈es,Bx B e)(fn:dX)(pos:String):xw B (iB 0 fn pos es):=fun op hop=>by
 obtain⟨e,he,rfl⟩:=Conc.mem_ofEvents hop;obtain⟨loc,wr,sy⟩:=e;refine⟨rfl,?_⟩;rcases h _ he with⟨a,rfl,ha⟩|⟨r,rfl,hr⟩|rfl|rfl|⟨f,rfl⟩
 .exact⟨ha,by simp[fX],by simp[fX]⟩
 .cases wr<;>cases sy<;>exact⟨hr,by simp[fX],by simp[fX]⟩
 .exact⟨trivial,by simp[fX],by simp[fX]⟩
 .exact⟨trivial,by simp[fX],by simp[fX]⟩
 exact⟨trivial,by simp[fX],by simp[fX]⟩
theorem NF{B B':Nat}(hB:B<=B'){aN:Array MemOp}(h:∀op∈aN,VF B op):xw B' aN:=fun op hop=>by
 obtain⟨hg,r,n,m,hr,ho⟩:=h op hop;refine⟨hg,?_⟩;rcases ho with e|e|e|e|e<;>rw[e]<;>exact⟨bA hr hB,by simp,by simp⟩
theorem zR{B:Nat}{aN:Array MemOp}(h:xw B aN)(t:Trace)(g:Nat):Deaf (t++aN) g=Deaf t g:=by
 obtain⟨l⟩:=aN;rw[Deaf_append]
 have:∀(l:List MemOp),(∀op∈l,op.act≠.mark .disable/\op.act≠.mark .enable)->∀d,l.foldl (deafStep g) d=d:=by
  intro l
  induction l with
  |nil=>intro _ d;rfl
  |cons y l ih=>
   intro hl d;rw[List.foldl_cons]
   have:deafStep g d y=d:=by
    have hy:=hl y (dz ..);unfold deafStep;split
    .rename_i e;exact absurd e hy.1
    .rename_i e;exact absurd e hy.2
    rfl
   rw[this];exact ih (fun op hop=>hl op (bW _ hop)) d
 exact this l (fun op hop=>⟨(h op (by simpa using hop)).2.2.1,(h op (by simpa using hop)).2.2.2⟩) _
section
variable{P:aL}
theorem runT_crowd_comm{gs:Array aD}{w w':ar}{sl:Option (Nat × Nat)}{i:Nat}{g g':aD}{cs:Array mU}{b:Bool}{sh:CommShape}{es:Array gw}(hi:gs[i]?=some g)(h:fo P (i==0) g w=.comm g' cs b sh w' es) :
  runT P (crowd gs w sl) i=((mP P { timers:=#[],alone:=none,slice:=sl } (gs.setIfInBounds i { (default:aD) with status:=.finished }) i g' cs b sh w').1,
   iB i g.frame.fn g.frame.place es++(mP P { timers:=#[],alone:=none,slice:=sl } (gs.setIfInBounds i { (default:aD) with status:=.finished }) i g' cs b sh w').2):=by
 obtain⟨hlt,rfl⟩:=ai.1 hi;have hsw:=swapAt_of_lt hlt { (default:aD) with status:=.finished };have uP:gs.set i { (default:aD) with status:=.finished }=gs.setIfInBounds i { (default:aD) with status:=.finished }:=by simp[Array.setIfInBounds,hlt]
 show runT P { world:=w,gs:=gs,rest:={ timers:=#[],alone:=none,slice:=sl } } i=_;unfold runT;simp only[hsw,h,GStep.es,uP]
def Idle(gs:Array aD):Prop:=∀(i:Nat) (x:aD),0<i->gs[i]?=some x->x.status=.running\/x.status=.finished
theorem OU{w:ar}{o:aD}(h:o.status=.running\/o.status=.finished):o.again w=o:=by
 unfold Goroutine.again;rcases h with h|h<;>rw[h]
theorem M7{gs:Array aD}(h:Idle gs)(g g':aD)(w':ar):(gs.map (woken P g g' w')).setIfInBounds 0 g'=gs.setIfInBounds 0 g':=by
 apply Array.ext_getElem?;intro j
 by_cases hj:0=j
 .subst hj;simp only[bF,Array.size_map,if_true]
 .simp only[aC hj,Array.getElem?_map];cases hx:gs[j]? with
  |none=>rfl
  |some x=>
   simp only[dH];unfold woken;split
   .rw[OU (h j x (by omega) hx)]
   rfl
def rT(P:aL)(g:aD)(W:ar)(g':aD)(W':ar):Prop:=
 g.status=.running/\g.dying=none/\(∃aN,stepT P (solo g W)=(.next (solo g' W'),aN))/\g'.status=.running/\g'.dying=none
theorem oC{a b:aD}{w w':ar}(h:solo a w=solo b w'):a=b/\w=w':=by
 unfold solo at h;injection h with h1 h2 h3
 exact⟨by simpa using h2,h1⟩
theorem Kz(gs:Array aD)(x y:aD):(gs.setIfInBounds 0 x).setIfInBounds 0 y=gs.setIfInBounds 0 y:=by
 apply Array.ext_getElem?;intro j
 by_cases hj:0=j
 .subst hj;simp[bF]
 simp[aC hj]
theorem Cm[uM](T:Quiet P){lw w:ar}{g g':aD}{eG:ar}(hg:Av g)(cY:dC lw)(V:ju lw w)(h:rT P g lw g' eG) :
  Av g'/\∃w' k aN,Base lw eG w' k #[]/\xw eG.heap.size aN/\
   ∀I d gs sl,Agree k lw.tape lw.drawn I d->gs[0]?=some g->Idle gs->runT P (crowd gs (dB w I d) sl) 0=(.next (crowd (gs.setIfInBounds 0 g') (dB w' I (d+k)) sl),aN):=by
 obtain⟨hr,hd,⟨aN,hs⟩,hr',M0⟩:=h;have A0:=Hb T hg hd cY V;rw[stepT_solo hr,solo_eq_crowd] at hs;have Oi:(#[g]:Array aD)[0]?=some g:=rfl;cases qH:fo P true g lw with
 |go g1 kK es=>
  rw[qH] at A0;have e:=runT_crowd_go (P:=P) (gs:=#[g]) (w:=lw) (sl:=none) (i:=0) Oi qH;rw[e] at hs;injection hs with hs1 hs2
  injection hs1 with hs3
  have:(#[g].map (woken P g g1 kK)).setIfInBounds 0 g1 = #[g1]:=by simp
  rw[this,<-solo_eq_crowd] at hs3;obtain⟨rfl,rfl⟩:=oC hs3;rcases A0 with hdy|⟨Dv,_,w',k,hb,hm⟩
  .obtain⟨_,dd,he,_⟩:=hdy;rw[M0] at he;cases he
  refine⟨Dv,w',k,_,⟨hb.tape,hb.drawn,hb.grows,hb.ok,by simp,hb.tQ⟩,tX hb.evs g.frame.fn g.frame.place,fun I d gs sl ha h0 hi=>?_⟩;rw[runT_crowd_go (P:=P) (sl:=sl) (i:=0) h0 (hm I d ha),M7 hi]
 |comm g1 cs b sh kK es=>
  rw[qH] at A0;obtain⟨Dv,⟨hgd,aat⟩,w1,k1,hb,hm⟩:=A0;have e:=runT_crowd_comm (P:=P) (gs:=#[g]) (w:=lw) (sl:=none) (i:=0) Oi qH;rw[e] at hs;have aaq:(#[g].setIfInBounds 0 { (default:aD) with status:=.finished }) = #[{ (default:aD) with status:=.finished }]:=by simp
  rw[aaq] at hs;generalize hc:mP P { timers:=#[],alone:=none,slice:=none } #[{ (default:aD) with status:=.finished }] 0 g1 cs b sh kK=cc at hs;obtain⟨st,more⟩:=cc;injection hs with hs1 hs2
  dsimp only at hs1;subst hs1
  have key:∀gs:Array aD,Idle gs->0<gs.size->lL (gs.setIfInBounds 0 { (default:aD) with status:=.finished }):=by
   intro gs hi h0 x hx;obtain⟨j,hj⟩:=Array.mem_iff_getElem?.1 hx
   by_cases e0:0=j
   .subst e0;simp only[bF,if_true,h0] at hj;cases hj;simp
   rw[aC e0] at hj;rcases hi j x (by omega) hj with h|h<;>rw[h]<;>simp
  have Xu:({ (default:aD) with status:=.finished }:aD).status≠.blocked:=by simp
  obtain⟨g2,ZO,e2,EO⟩:=Mi T Xu (rest0:={ timers:=#[],alone:=none,slice:=none }) rfl hb.ok hb.tQ Dv hgd aat hc;have e3:solo g' eG=solo g2 ZO:=e2;obtain⟨rfl,rfl⟩:=oC e3;rcases EO with hblk|⟨w2,k2,hcr⟩
  .rw[hr'] at hblk;cases hblk
  refine⟨hcr.gok,w2,k1+k2,iB 0 g.frame.fn g.frame.place es++more,⟨hcr.base.tape.trans hb.tape,by rw[hcr.base.drawn,hb.drawn];omega,aO hb.grows hcr.base.grows,hcr.base.ok,by simp,hcr.base.tQ⟩,
   (tX (fun e he=>(hb.evs e he).mono hcr.base.grows) _ _).app (NF hcr.base.grows hcr.lists),fun I d gs sl ha h0 hi=>?_⟩
  obtain⟨ha1,ha2⟩:=wN ha;have hlt:0<gs.size:=(ai.1 h0).1;have h2:=hcr.many (gs.setIfInBounds 0 { (default:aD) with status:=.finished }) { timers:=#[],alone:=none,slice:=sl } (key gs hi hlt) rfl I (d+k1) (by rw[hb.tape,hb.drawn];exact ha2);rw[runT_crowd_comm (P:=P) (sl:=sl) (i:=0) h0 (hm I d ha1),h2,Kz,qX];rfl
 |ended o kK es=>
  have e:=runT_many_ended (P:=P) (gs:=#[g]) (w:=lw) (sl:=none) (i:=0) Oi qH;rw[e] at hs;injection hs with hs1 hs2
  cases hs1
 |spawn g1 c kK es=>
  have e:=runT_crowd_spawn (P:=P) (gs:=#[g]) (w:=lw) (sl:=none) (i:=0) Oi qH;rw[e] at hs;injection hs with hs1 hs2
  injection hs1 with hs3
  have:=congrArg (fun m:Machine=>m.gs.size) hs3;simp[crowd,solo] at this
 |_=>rw[qH] at A0;exact A0.elim
end
end Go.Lag
