/- The tape: what a program of the model's own monad yields hangs on the  .. -/
import GoSem.Step
import Derived.Calls
import Derived.Laws.Sem
import Derived.DyingOn
set_option linter.all false
set_option maxHeartbeats 100000000
set_option maxRecDepth 1000000
open Array renaming mem_append → Gf,getElem?_setIfInBounds_ne → aA,getElem?_eq_some_iff → ak,getElem?_setIfInBounds → bA,append_empty → dU,empty_append → eO,getElem?_eq_none → fg,getElem?_push → kN,getElem?_modify → o8
open Bool renaming not_true → CL,and_eq_true → aD,false_eq_true → bw
open Go renaming Goroutine → aB,Program → aI,TypeId → aZ,Value → aj,World → ar,Frame → bL,Addr → cU,Question → dE,FuncId → dR,runtimePanic → eo,Event → fQ,callFunc → fo,zeroValue → iI,underlying → iL,Sem → ic,unwind → lI,typeInfo → lJ,unsupported → qJ,doReturn → tT,findLabel → zZ
open Go.Builtin renaming firstCells → eN,zeroCells → fH,append_ → j6,mayShare → pK
open Go.Frame renaming enter → eh
open Go.GStep renaming after → Bf
open Go.Instr renaming mapUpdate → Ab,loadAt → Be,findKey → CJ,indexAt → j5,findAsking → jm,index → mH,checkKey → nB
open Go.Sem renaming runT → dD
open Go.World renaming setCell → j3
open Go.stepG renaming exec → bX,apply → dZ,oper → eM
open List renaming mem_cons → bR,mem_cons_of_mem → bz,all_cons → dN,mem_cons_self → dw
open Nat renaming le_trans → aN,le_refl → ax,add_assoc → np
open Option renaming map_some → dI,map_eq_some_iff → eD
open Pure renaming pure → eH
namespace Go.Lag
def dx(w:ar)(τ:Nat→dE→Nat)(d:Nat):World:={ w with tape:=τ,drawn:=d }
def Agree(n:Nat)(τ:Nat→dE→Nat)(d:Nat)(τ':Nat→dE→Nat)(d':Nat):Prop:=∀i,i<n→τ (d+i)=τ' (d'+i)
theorem Agree.le{n m:Nat}{τ τ':Nat→dE→Nat}{d d':Nat}(h:Agree n τ d τ' d')(hm:m≤n):Agree m τ d τ' d':=fun i hi=>h i (Nat.lt_of_lt_of_le hi hm)
@[simp] theorem oz (w:ar) (τ:Nat→dE→Nat) (d:Nat):(dx w τ d).heap=w.heap:=rfl
@[simp] theorem YH (w:ar) (τ:Nat→dE→Nat) (d:Nat):(dx w τ d).os=w.os:=rfl
@[simp] theorem yQ (w:ar) (τ:Nat→dE→Nat) (d:Nat):(dx w τ d).tape=τ:=rfl
@[simp] theorem pS (w:ar) (τ:Nat→dE→Nat) (d:Nat):(dx w τ d).drawn=d:=rfl
def abD{α:Type}(r:Result α)(τ:Nat→dE→Nat)(d:Nat):Result α:=
 match r with
 |.ok a w=>.ok a (dx w τ d)
 |.halt h w=>.halt h (dx w τ d)
theorem oJ(w:ar)(τ:Nat→dE→Nat)(d:Nat)(a:cU):(dx w τ d).cell? a=w.cell? a:=rfl
theorem xM(w:ar)(τ:Nat→dE→Nat)(d:Nat)(a:cU):(dx w τ d).frozen? a=w.frozen? a:=rfl
theorem PN(w:ar)(τ:Nat→dE→Nat)(d:Nat)(r:Nat):(dx w τ d).shape? r=w.shape? r:=rfl
theorem vn(p:aI)(w:ar)(τ:Nat→dE→Nat)(d:Nat)(a:cU)(b:Bool):(dx w τ d).farLoad p a b=w.farLoad p a b:=rfl
theorem Sb(p:aI)(w:ar)(τ:Nat→dE→Nat)(d:Nat)(x:cU)(u:aZ)(k:cU)(b:Bool):(dx w τ d).seen p x u k b=w.seen p x u k b:=rfl
theorem Fv(p:aI)(w:ar)(τ:Nat→dE→Nat)(d:Nat)(x:cU)(u:aZ)(k:cU)(v:aj)(b:Bool) :
  (dx w τ d).viewStore p x u k v b=(w.viewStore p x u k v b).map fun(w',l)=>(dx w' τ d,l):=by
 unfold World.viewStore;simp only[Sb];generalize w.seen p x u k b=s;cases s with
 |error e=>by_cases h:tight p p.depth u<;>simp only[h]<;>rfl
 |ok s=>
  obtain⟨c,e,fz,first,like,cells⟩:=s
  by_cases h:tight p p.depth u
  ·simp only[h,Bind.bind,Except.bind,eH,Except.pure];simp only[CL,bw,if_false];cases v.bytes? with
   |none=>rfl
   |some bytes=>
    simp only[];split
    ·rfl
    ·generalize (List.foldlM _ c cells:Except String (Array aj))=r;cases r<;>rfl
  ·simp only[h];rfl
theorem zq(p:aI)(w:ar)(τ:Nat→dE→Nat)(d:Nat)(a:cU)(v:aj)(b:Bool) :
  (dx w τ d).farStore p a v b=(w.farStore p a v b).map fun(w',l)=>(dx w' τ d,l):=by
 unfold World.farStore;simp only[oz];split
 ·rw[Fv];generalize w.viewStore p _ _ a v b=r;cases r<;>rfl
 ·rfl
def Ak:Builtin→Bool
 |.append|.cap|.clear|.close|.copy|.delete|.len|.max|.min|.recover|.panic=>true
 |_=>false
def Iw(c:Call):Bool:=
 match c.callee with
 |.builtin b=>Ak b
 |_=>true
def Aj(o:Oper):Bool:=
 match o.op with
 |.call c|.go c|.defer c=>Iw c
 |_=>true
def dP:Code→Bool
 |.region _ ops _=>ops.all Aj
 |.seq a b=>dP a&&dP b
 |.cond _ a b=>dP a&&dP b
 |.block _ c=>dP c
 |.loop c=>dP c
 |.rangeFunc _ _ a b=>dP a&&dP b
 |.scope c=>dP c
 |_=>true
def Kk:Target→Bool
 |.builtin b ..=>Ak b
 |.coroexit _=>false
 |_=>true
def pg(d:Deferred):Bool:=Kk d.target
def xr(l:Loop):Bool:=(l.pending.all dP)&&dP l.assign&&dP l.body
def fO:Obj→Bool
 |.loop l=>xr l
 |.deferred (some ds)=>ds.all pg
 |.coro _=>false
 |.finalizers ..=>false
 |_=>true
def JB(c:Sys):Prop:=∀os,∃r,Kernel.perform c os=.done (r,os)∧r≠.wouldBlock
def Fi{α:Type}(s:ic α):Prop:=∃why,s=.halt (.stuck why)
def Calm(P:aI){α:Type}(Q:α→Prop):ic α→Prop
 |.pure a=>Q a
 |.load _ _ k=>∀v,Calm P Q (k v)
 |.store _ _ _ k=>Calm P Q k
 |.new o k=>fO o=true∧∀r,Calm P Q (k r)
 |.shape _ k=>∀s,Calm P Q (k s)
 |.freeze _ _ k=>Calm P Q k
 |.frozen _ k=>∀b,Calm P Q (k b)
 |.getObj _ k=>(∀o,fO o=true→Calm P Q (k o))∧(Fi (k (.coro none))∨(Calm P Q (k (.coro none))∧∀o,fO o=false→k o=k (.coro none)))
 |.setObj _ o k=>fO o=true∧Calm P Q k
 |.choose _ k=>∀n,Calm P Q (k n)
 |.sys c k=>JB c∧∀r,Calm P Q (k r)
 |.program k=>Calm P Q (k P)
 |.mark m k=>(m=.noRoom∨∃f,m=.extern f)∧Calm P Q k
 |.halt h=>h≠.blocked∧h≠.waiting
def Gone(P:aI){α:Type}(Q:α→Prop)(f:Obj→ic α):Prop:=Fi (f (.coro none))∨(Calm P Q (f (.coro none))∧∀o,fO o=false→f o=f (.coro none))
theorem mM{P:aI}{α:Type}{Q:α→Prop}{f:Obj→ic α}{w:String}(h:f (.coro none)=.halt (.stuck w)):Gone P Q f:=.inl ⟨w,h⟩
theorem qu{P:aI}{α:Type}{Q:α→Prop}{f:Obj→ic α}(h:Calm P Q (f (.coro none)))(h2:∀o,fO o=false→f o=f (.coro none)):Gone P Q f:=.inr ⟨h,h2⟩
abbrev Any{α:Type}:α→Prop:=fun _=>True
section
variable{P:aI}{α β:Type}{Q:β→Prop}
theorem eC{R:α→Prop}{s:ic α}{f:α→ic β}(hs:Calm P R s)(hf:∀a,R a→Calm P Q (f a)):Calm P Q (s >>= f):=by
 show Calm P Q (s.bind f)
 induction s with
 |pure a=>exact hf a hs
 |load m a k ih=>exact fun v=>ih v (hs v)
 |store m a v k ih=>exact ih hs
 |new o k ih=>exact⟨hs.1,fun r=>ih r (hs.2 r)⟩
 |shape r k ih=>exact fun s=>ih s (hs s)
 |freeze a n k ih=>exact ih hs
 |frozen a k ih=>exact fun b=>ih b (hs b)
 |getObj r k ih=>
  refine⟨fun o ho=>ih o (hs.1 o ho),hs.2.imp (fun⟨why,hw⟩=>⟨why,by show(k (.coro none)).bind f=_;rw[hw];rfl⟩) fun⟨h1,h2⟩=>⟨ih _ h1,fun o ho=>?_⟩⟩;show(k o).bind f=(k (.coro none)).bind f;rw[h2 o ho]
 |setObj r o k ih=>exact⟨hs.1,ih hs.2⟩
 |choose q k ih=>exact fun n=>ih n (hs n)
 |sys c k ih=>exact⟨hs.1,fun r=>ih r (hs.2 r)⟩
 |program k ih=>exact ih P hs
 |mark m k ih=>exact⟨hs.1,ih hs.2⟩
 |halt h=>exact hs
theorem aP{s:ic α}{f:α→ic β}(hs:Calm P Any s)(hf:∀a,Calm P Q (f a)):Calm P Q (s >>= f):=eC hs fun a _=>hf a
theorem Calm.imp{R:β→Prop}{s:ic β}(hs:Calm P R s)(h:∀a,R a→Q a):Calm P Q s:=by
 have:=eC (f:=Sem.pure) (Q:=Q) hs (fun a ha=>h a ha);have e:s >>= Sem.pure=s:=bind_pure s;rwa [e] at this
theorem cz{a:α}:Calm P Any (eH a:ic α):=trivial
theorem tJ{a:α}:Calm P Any (Sem.pure a:ic α):=trivial
theorem ER{a:β}(h:Q a):Calm P Q (eH a:ic β):=h
theorem vu{s:ic α}{f:α→β}(hs:Calm P Any s):Calm P Any (Functor.map f s):=eC (Q:=Any) hs fun _ _=>trivial
theorem bD{w:String}:Calm P Q (stuck w:ic β):=⟨by simp,by simp⟩
theorem dJ{u:Unsupported}:Calm P Q (qJ u:ic β):=⟨by simp,by simp⟩
theorem kj{v:aj}:Calm P Q (goPanic v:ic β):=⟨by simp,by simp⟩
theorem tL{w:String}:Calm P Q (fatal w:ic β):=⟨by simp,by simp⟩
theorem qz{w:String}:Calm P Q (throw w:ic β):=⟨by simp,by simp⟩
theorem sI{a:cU}{m:Mode}:Calm P Any (load a m):=fun _=>trivial
theorem qA{a:cU}{v:aj}{m:Mode}:Calm P Any (store a v m):=trivial
theorem kZ{o:Obj}(h:fO o=true):Calm P Any (newObj o):=⟨h,fun _=>trivial⟩
theorem tI{r:Nat}:Calm P Any (shape r):=fun _=>trivial
theorem ri{a:cU}{n:Nat}:Calm P Any (freeze a n):=trivial
theorem rh{a:cU}:Calm P Any (frozen a):=fun _=>trivial
theorem jZ{r:Nat}{f:Obj→ic β}(h:∀o,fO o=true→Calm P Q (f o))(hk:Gone P Q f):Calm P Q (getObj r >>= f):=⟨h,hk⟩
theorem iH{r:Nat}{o:Obj}(h:fO o=true):Calm P Any (setObj r o):=⟨h,trivial⟩
theorem k9{q:dE}:Calm P Any (choose q):=fun _=>trivial
theorem jq:Calm P Any program:=trivial
theorem nh{n:Nat}:Calm P Any (askRoom n):=by
 unfold askRoom;split
 ·exact⟨.inl rfl,trivial⟩
 ·trivial
theorem oL:Calm P Any (mark .noRoom):=⟨.inl rfl,trivial⟩
theorem ET{f:α→ic β}(hf:∀a,Calm P Any (f a))(l:List α):Calm P Any (l.mapM f):=by
 rw[←List.mapM'_eq_mapM]
 induction l with
 |nil=>exact cz
 |cons a l ih=>exact aP (hf a) fun _=>aP ih fun _=>cz
theorem qa{f:α→ic β}(hf:∀a,Calm P Any (f a))(l:Array α):Calm P Any (l.mapM f):=by
 rw[Array.mapM_eq_mapM_toList];exact vu (ET hf _)
theorem Cb{γ:Type}{f:β→γ→ic β}(hf:∀a b,Calm P Any (f a b))(b:β)(l:List γ):Calm P Any (l.foldlM f b):=by
 induction l generalizing b with
 |nil=>exact cz
 |cons a l ih=>exact aP (hf b a) fun _=>ih _
theorem jn{γ:Type}{f:γ→β→ic (ForInStep β)}(hf:∀a b,Calm P Any (f a b))(l:List γ)(b:β):Calm P Any (forIn l b f):=by
 induction l generalizing b with
 |nil=>exact cz
 |cons a l ih=>
  rw[List.forIn_cons];refine aP (hf a b) fun r=>?_;cases r with
  |done b=>exact cz
  |yield b=>exact ih b
theorem lG{γ:Type}{f:γ→β→ic (ForInStep β)}(hf:∀a b,Calm P Any (f a b))(l:Array γ)(b:β):Calm P Any (forIn l b f):=by
 rw[←Array.forIn_toList];exact jn hf _ _
theorem lF{f:Nat→β→ic (ForInStep β)}(hf:∀a b,Calm P Any (f a b))(l:Std.Legacy.Range)(b:β):Calm P Any (forIn l b f):=by
 rw[Std.Legacy.Range.forIn_eq_forIn_range'];exact jn hf _ _
end
section
variable{P:aI}
class K (P:aI) {α:Type} (s:ic α):Prop where
 c:Calm P Any s
theorem bI{p:Prop}(h:p:=by
  repeat' (first|exact K.c|with_reducible (first|exact cz|exact tJ|exact bD|exact dJ|exact kj|exact tL|exact qz|exact sI|exact qA|exact tI|exact ri|exact rh|exact k9|exact jq|exact nh|exact oL|exact(kZ rfl)|exact(iH rfl)|assumption)|exact ih ..|(with_reducible apply mM;exact rfl)|(with_reducible refine qu ?_ (fun o ho=>by cases o<;>first|rfl|(revert ho;simp[fO];done)))|(refine jZ (fun _ _=>?_) ?_)|(refine aP ?_ (fun _=>?_))|(refine vu ?_)|(refine qa (fun _=>?_) _)|(refine jn (fun _ _=>?_) _ _)|(refine lG (fun _ _=>?_) _ _)|(refine lF (fun _ _=>?_) _ _)|split|intro _|dsimp only|trivial)):p:=h
instance (x0):K P (viewAt x0):=⟨by unfold viewAt;exact bI⟩
instance (x0):K P (numberAt x0):=⟨by unfold numberAt;exact bI⟩
instance (x0):K P (cellsIn x0):=⟨by unfold cellsIn;exact bI⟩
instance (x0 x1):K P (asNumber x0 x1):=⟨by unfold asNumber;exact bI⟩
instance (x0):K P (behindNumber x0):=⟨by unfold behindNumber;exact bI⟩
instance (x0):K P (backFromNumber x0):=⟨by unfold backFromNumber;exact bI⟩
instance (x0):K P (noView x0):=⟨by unfold noView;exact bI⟩
instance (x0):K P (markStringish x0):=⟨by unfold markStringish;exact bI⟩
instance (x0):K P (stringish x0):=⟨by unfold stringish;exact bI⟩
instance (x0 x1):K P (mayBeOne x0 x1):=⟨by unfold mayBeOne;exact bI⟩
instance (x0 x1):K P (sameAddr x0 x1):=⟨by unfold sameAddr;exact bI⟩
instance (x0 x1):K P (samePointer x0 x1):=⟨by unfold samePointer;exact bI⟩
instance (x0):K P (lJ x0):=⟨by unfold lJ;exact bI⟩
theorem jv(x0):Calm P Any (lJ x0):=K.c
instance (x0):K P (iL x0):=⟨by unfold iL;exact bI⟩
theorem gD(x0):Calm P Any (iL x0):=K.c
instance (x0):K P (cutType x0):=⟨by unfold cutType;exact bI⟩
instance (x0):K P (globalAddr x0):=⟨by unfold globalAddr;exact bI⟩
instance (x0):K P (typeStr x0):=⟨by unfold typeStr;exact bI⟩
theorem tH(x0):Calm P Any (typeStr x0):=K.c
instance (x0):K P (iI x0):=⟨by unfold iI;exact bI⟩
theorem ng(x0):Calm P Any (iI x0):=K.c
instance (x0):K P (sizeOf x0):=⟨by unfold sizeOf;exact bI⟩
theorem Lz(x0):Calm P Any (sizeOf x0):=K.c
instance (x0):K P (isAgg x0):=⟨by unfold isAgg;exact bI⟩
theorem xR(a i n acc):Calm P Any (loadCellsFrom a i n acc):=by
 induction n generalizing i acc with
 |zero=>exact cz
 |succ n ih=>exact aP sI fun _=>ih _ _
instance (a i n acc):K P (loadCellsFrom a i n acc):=⟨xR a i n acc⟩
instance (x0 x1):K P (loadCells x0 x1):=⟨by unfold loadCells;exact bI⟩
theorem uh(a vs i):Calm P Any (storeCells a vs i):=by
 induction vs generalizing i with
 |nil=>exact cz
 |cons v vs ih=>exact aP qA fun _=>ih _
instance (a vs i):K P (storeCells a vs i):=⟨uh a vs i⟩
instance (x0 x1):K P (loadVar x0 x1):=⟨by unfold loadVar;exact bI⟩
theorem tK(x0 x1):Calm P Any (loadVar x0 x1):=K.c
instance (x0 x1 x2):K P (storeVar x0 x1 x2):=⟨by unfold storeVar;exact bI⟩
instance (x0 x1):K P (newRow x0 x1):=⟨by unfold newRow;exact bI⟩
theorem LB(x0 x1):Calm P Any (newRow x0 x1):=K.c
instance (x0 x1):K P (newVar x0 x1):=⟨by unfold newVar;exact bI⟩
theorem LA(x0 x1):Calm P Any (newVar x0 x1):=K.c
instance (x0):K P (elemOf x0):=⟨by unfold elemOf;exact bI⟩
theorem LG(x0):Calm P Any (elemOf x0):=K.c
instance (x0 x1 x2):K P (part x0 x1 x2):=⟨by unfold part;exact bI⟩
theorem Hc(x0 x1 x2):Calm P Any (part x0 x1 x2):=K.c
instance {α:Type} (m):K P (panicString m:ic α):=⟨by unfold panicString;exact bI⟩
instance {α:Type} (e):K P (eo e:ic α):=⟨by unfold eo;exact bI⟩
theorem iq{α:Type}(e):Calm P Any (eo e:ic α):=K.c
instance {α:Type} (k x y c):K P (boundsPanic k x y c:ic α):=⟨by unfold boundsPanic;exact bI⟩
instance (x0):K P (asIntOf x0):=⟨by unfold asIntOf;exact bI⟩
instance (x0):K P (asInt x0):=⟨by unfold asInt;exact bI⟩
theorem qB(x0):Calm P Any (asInt x0):=K.c
instance (x0):K P (asBool x0):=⟨by unfold asBool;exact bI⟩
theorem LH(x0):Calm P Any (asBool x0):=K.c
instance (x0):K P (asString x0):=⟨by unfold asString;exact bI⟩
theorem ku(x0):Calm P Any (asString x0):=K.c
instance (x0):K P (asAgg x0):=⟨by unfold asAgg;exact bI⟩
theorem tM(x0):Calm P Any (asAgg x0):=K.c
instance (x0):K P (asAddr x0):=⟨by unfold asAddr;exact bI⟩
theorem mP(x0):Calm P Any (asAddr x0):=K.c
instance (x0):K P (byteOf x0):=⟨by unfold byteOf;exact bI⟩
instance (x0 x1 x2):K P (partAt x0 x1 x2):=⟨by unfold partAt;exact bI⟩
instance (x0 x1):K P (fieldPlace x0 x1):=⟨by unfold fieldPlace;exact bI⟩
theorem Cw(x0 x1):Calm P Any (fieldPlace x0 x1):=K.c
instance (x0 x1 x2):K P (variablesAt x0 x1 x2):=⟨by unfold variablesAt;exact bI⟩
instance (x0 x1 x2):K P (intVariablesAt x0 x1 x2):=⟨by unfold intVariablesAt;exact bI⟩
instance (x0 x1):K P (byteVariablesAt x0 x1):=⟨by unfold byteVariablesAt;exact bI⟩
theorem EU(a acc n):Calm P Any (loadBytes a acc n):=by
 induction n generalizing acc a with
 |zero=>unfold loadBytes;exact cz
 |succ n ih=>
  unfold loadBytes
  all_goals exact bI
instance (a acc n):K P (loadBytes a acc n):=⟨EU a acc n⟩
instance (x0 x1):K P (storeBytes x0 x1):=⟨by unfold storeBytes;exact bI⟩
instance (x0):K P (Instr.sureAddr x0):=⟨by unfold Instr.sureAddr;exact bI⟩
instance (x0 x1):K P (Be x0 x1):=⟨by unfold Be;exact bI⟩
theorem zL(x0 x1):Calm P Any (Be x0 x1):=K.c
instance (x0 x1 x2):K P (Instr.storeAt x0 x1 x2):=⟨by unfold Instr.storeAt;exact bI⟩
theorem xT(x0 x1 x2):Calm P Any (Instr.storeAt x0 x1 x2):=K.c
instance (x0 x1 x2):K P (Instr.fieldAt x0 x1 x2):=⟨by unfold Instr.fieldAt;exact bI⟩
theorem xX(x0 x1 x2):Calm P Any (Instr.fieldAt x0 x1 x2):=K.c
instance (x0 x1 x2):K P (j5 x0 x1 x2):=⟨by unfold j5;exact bI⟩
theorem xW(x0 x1 x2):Calm P Any (j5 x0 x1 x2):=K.c
instance (x0 x1 x2):K P (Instr.alloc x0 x1 x2):=⟨by unfold Instr.alloc;exact bI⟩
theorem A1(x0 x1 x2):Calm P Any (Instr.alloc x0 x1 x2):=K.c
instance (x0 x1):K P (Instr.box x0 x1):=⟨by unfold Instr.box;exact bI⟩
theorem EY(x0 x1):Calm P Any (Instr.box x0 x1):=K.c
instance (x0 x1):K P (Instr.build x0 x1):=⟨by unfold Instr.build;exact bI⟩
theorem A0(x0 x1):Calm P Any (Instr.build x0 x1):=K.c
instance (x0 x1 x2):K P (Instr.buildSlice x0 x1 x2):=⟨by unfold Instr.buildSlice;exact bI⟩
theorem uF(x0 x1 x2):Calm P Any (Instr.buildSlice x0 x1 x2):=K.c
instance (x0):K P (Instr.entry x0):=⟨by unfold Instr.entry;exact bI⟩
theorem AZ(x0):Calm P Any (Instr.entry x0):=K.c
instance (x0 x1):K P (Instr.extract x0 x1):=⟨by unfold Instr.extract;exact bI⟩
theorem xY(x0 x1):Calm P Any (Instr.extract x0 x1):=K.c
instance (x0 x1 x2):K P (Instr.field x0 x1 x2):=⟨by unfold Instr.field;exact bI⟩
theorem AY(x0 x1 x2):Calm P Any (Instr.field x0 x1 x2):=K.c
instance (x0 x1 x2):K P (mH x0 x1 x2):=⟨by unfold mH;exact bI⟩
theorem AX(x0 x1 x2):Calm P Any (mH x0 x1 x2):=K.c
instance (x0 x1):K P (Op.twoPlaces x0 x1):=⟨by unfold Op.twoPlaces;exact bI⟩
instance (x0 x1 x2):K P (Op.addrSub x0 x1 x2):=⟨by unfold Op.addrSub;exact bI⟩
instance (x0 x1 x2):K P (Op.addrCmp x0 x1 x2):=⟨by unfold Op.addrCmp;exact bI⟩
instance (x0 x1 x2):K P (Op.addrMod x0 x1 x2):=⟨by unfold Op.addrMod;exact bI⟩
instance (x0 x1 x2 x3):K P (Op.floatArith x0 x1 x2 x3):=⟨by unfold Op.floatArith;exact bI⟩
instance (x0 x1 x2 x3):K P (Op.floatCmp x0 x1 x2 x3):=⟨by unfold Op.floatCmp;exact bI⟩
instance (x0 x1 x2 x3):K P (Op.intArith x0 x1 x2 x3):=⟨by unfold Op.intArith;exact bI⟩
instance (x0 x1 x2 x3):K P (Op.intBits x0 x1 x2 x3):=⟨by unfold Op.intBits;exact bI⟩
instance (x0 x1 x2):K P (Op.intCmp x0 x1 x2):=⟨by unfold Op.intCmp;exact bI⟩
instance (x0 x1 x2 x3):K P (Op.intDiv x0 x1 x2 x3):=⟨by unfold Op.intDiv;exact bI⟩
instance (x0 x1 x2 x3 x4):K P (Op.shift x0 x1 x2 x3 x4):=⟨by unfold Op.shift;exact bI⟩
instance (x0 x1 x2):K P (Op.stringOp x0 x1 x2):=⟨by unfold Op.stringOp;exact bI⟩
instance (x0 x1 x2):K P (Conv.floatToFloat x0 x1 x2):=⟨by unfold Conv.floatToFloat;exact bI⟩
instance (x0 x1 x2):K P (Conv.floatToInt x0 x1 x2):=⟨by unfold Conv.floatToInt;exact bI⟩
instance (x0 x1):K P (Conv.intToFloat x0 x1):=⟨by unfold Conv.intToFloat;exact bI⟩
instance (x0 x1):K P (Conv.intToInt x0 x1):=⟨by unfold Conv.intToInt;exact bI⟩
instance (x0):K P (Conv.intToString x0):=⟨by unfold Conv.intToString;exact bI⟩
instance (x0 x1 x2 x3):K P (Conv.complexToComplex x0 x1 x2 x3):=⟨by unfold Conv.complexToComplex;exact bI⟩
instance (x0):K P (Conv.bytesToString x0):=⟨by unfold Conv.bytesToString;exact bI⟩
instance (x0):K P (Conv.runesToString x0):=⟨by unfold Conv.runesToString;exact bI⟩
instance (x0 x1):K P (Conv.stringToBytes x0 x1):=⟨by unfold Conv.stringToBytes;exact bI⟩
instance (x0 x1):K P (Conv.stringToRunes x0 x1):=⟨by unfold Conv.stringToRunes;exact bI⟩
instance (x0):K P (Conv.seenAt x0):=⟨by unfold Conv.seenAt;exact bI⟩
instance (x0 x1 x2):K P (Conv.unsafePointer x0 x1 x2):=⟨by unfold Conv.unsafePointer;exact bI⟩
instance (x0 x1 x2 x3):K P (Op.Complex.arith x0 x1 x2 x3):=⟨by unfold Op.Complex.arith;exact bI⟩
instance (x0 x1 x2 x3):K P (Op.Complex.cmp x0 x1 x2 x3):=⟨by unfold Op.Complex.cmp;exact bI⟩
instance (x0 x1 x2):K P (Op.Complex.conv x0 x1 x2):=⟨by unfold Op.Complex.conv;exact bI⟩
instance (x0 x1):K P (Op.Complex.add x0 x1):=⟨by unfold Op.Complex.add;exact bI⟩
instance (x0 x1):K P (Op.Complex.sub x0 x1):=⟨by unfold Op.Complex.sub;exact bI⟩
instance (x0 x1):K P (Op.Complex.mul x0 x1):=⟨by unfold Op.Complex.mul;exact bI⟩
instance (x0 x1):K P (Op.Complex.quo x0 x1):=⟨by unfold Op.Complex.quo;exact bI⟩
instance (x0 x1 x2 x3):K P (Op.Complex.product x0 x1 x2 x3):=⟨by unfold Op.Complex.product;exact bI⟩
instance (x0 x1 x2 x3 x4):K P (Op.Complex.corrected x0 x1 x2 x3 x4):=⟨by unfold Op.Complex.corrected;exact bI⟩
theorem rH(a b c d):Calm P Any (Op.Complex.quotient a b c d):=by
 unfold Op.Complex.quotient;refine aP (K.c) fun t=>?_
 extract_lets jp
 have hjp:∀x,Calm P Any (jp x):=by
  rintro⟨e,f⟩;show Calm P Any (Op.Complex.cmp BinOp.eql FloatKind.f64 c 0 >>= _);refine aP (K.c) fun t=>aP (K.c) fun u=>?_
  extract_lets zero
  split
  ·exact cz
  ·split
   ·exact aP (K.c) fun _=>aP (K.c) fun _=>cz
   ·split
    ·exact K.c
    ·split
     ·exact K.c
     ·exact cz
 clear_value jp
 cases t
 ·simp only[bw,if_false];exact aP (K.c) fun _=>aP (K.c) fun _=>aP (K.c) fun _=>aP (K.c) fun _=>aP (K.c) fun _=>aP (K.c) fun _=>aP (K.c) fun _=>aP (K.c) fun _=>aP (K.c) fun _=>aP cz fun _=>hjp _
 ·simp only[if_true];exact aP (K.c) fun _=>aP (K.c) fun _=>aP (K.c) fun _=>aP (K.c) fun _=>aP (K.c) fun _=>aP (K.c) fun _=>aP (K.c) fun _=>aP (K.c) fun _=>aP (K.c) fun _=>aP cz fun _=>hjp _
instance (a b c d):K P (Op.Complex.quotient a b c d):=⟨rH a b c d⟩
instance (x0 x1 x2 x3 x4 x5):K P (Op.complexOp x0 x1 x2 x3 x4 x5):=⟨by unfold Op.complexOp;exact bI⟩
instance (x0 x1):K P (Op.unary x0 x1):=⟨by unfold Op.unary;exact bI⟩
theorem F4(x0 x1):Calm P Any (Op.unary x0 x1):=K.c
theorem CA(n t x y):Calm P Any (Op.equalIn n t x y):=by
 induction n generalizing t x y with
 |zero=>unfold Op.equalIn;exact dJ
 |succ n ih=>
  unfold Op.equalIn
  all_goals exact bI
instance (n t x y):K P (Op.equalIn n t x y):=⟨CA n t x y⟩
instance (x0 x1 x2):K P (Op.equal x0 x1 x2):=⟨by unfold Op.equal;exact bI⟩
theorem zJ(n t x y):Calm P Any (Op.eqGuardIn n t x y):=by
 induction n generalizing t x y with
 |zero=>unfold Op.eqGuardIn;exact dJ
 |succ n ih=>
  unfold Op.eqGuardIn
  all_goals exact bI
instance (n t x y):K P (Op.eqGuardIn n t x y):=⟨zJ n t x y⟩
theorem wE(e n t v):Calm P Any (nB e n t v):=by
 induction n generalizing t v with
 |zero=>unfold nB;exact dJ
 |succ n ih=>
  unfold nB
  all_goals exact bI
instance (e n t v):K P (nB e n t v):=⟨wE e n t v⟩
theorem uD(t k es i):Calm P Any (jm t k es i):=by
 induction es generalizing i with
 |nil=>unfold jm;exact cz
 |cons e es ih=>
  unfold jm
  all_goals exact bI
instance (t k es i):K P (jm t k es i):=⟨uD t k es i⟩
instance (x0 x1 x2):K P (CJ x0 x1 x2):=⟨by unfold CJ;exact bI⟩
instance (x0 x1 x2 x3):K P (Instr.lookup x0 x1 x2 x3):=⟨by unfold Instr.lookup;exact bI⟩
theorem zK(x0 x1 x2 x3):Calm P Any (Instr.lookup x0 x1 x2 x3):=K.c
instance (x0 x1):K P (Instr.makeChan x0 x1):=⟨by unfold Instr.makeChan;exact bI⟩
theorem wD(x0 x1):Calm P Any (Instr.makeChan x0 x1):=K.c
instance (x0 x1 x2):K P (Instr.makeFunc x0 x1 x2):=⟨by unfold Instr.makeFunc;exact bI⟩
theorem wC(x0 x1 x2):Calm P Any (Instr.makeFunc x0 x1 x2):=K.c
instance (x0 x1):K P (Instr.makeInterface x0 x1):=⟨by unfold Instr.makeInterface;exact bI⟩
theorem rI(x0 x1):Calm P Any (Instr.makeInterface x0 x1):=K.c
instance (x0 x1):K P (Instr.makeMap x0 x1):=⟨by unfold Instr.makeMap;exact bI⟩
theorem xV(x0 x1):Calm P Any (Instr.makeMap x0 x1):=K.c
instance (x0 x1 x2):K P (Instr.makeSlice x0 x1 x2):=⟨by unfold Instr.makeSlice;exact bI⟩
theorem vw(x0 x1 x2):Calm P Any (Instr.makeSlice x0 x1 x2):=K.c
instance (x0 x1):K P (Instr.keyThatStays x0 x1):=⟨by unfold Instr.keyThatStays;exact bI⟩
instance (x0 x1 x2 x3):K P (Ab x0 x1 x2 x3):=⟨by unfold Ab;exact bI⟩
theorem oM(x0 x1 x2 x3):Calm P Any (Ab x0 x1 x2 x3):=K.c
instance (x0 x1 x2):K P (Instr.mapEntry x0 x1 x2):=⟨by unfold Instr.mapEntry;exact bI⟩
theorem wB(x0 x1 x2):Calm P Any (Instr.mapEntry x0 x1 x2):=K.c
instance (x0 x1 x2 x3):K P (Instr.entryStore x0 x1 x2 x3):=⟨by unfold Instr.entryStore;exact bI⟩
theorem uE(x0 x1 x2 x3):Calm P Any (Instr.entryStore x0 x1 x2 x3):=K.c
instance (x0 x1 x2):K P (Instr.next x0 x1 x2):=⟨by unfold Instr.next;exact bI⟩
theorem CB(x0 x1 x2):Calm P Any (Instr.next x0 x1 x2):=K.c
instance (x0):K P (Instr.waits x0):=⟨by unfold Instr.waits;exact bI⟩
theorem AV(x0):Calm P Any (Instr.waits x0):=K.c
instance (x0):K P (Instr.ready x0):=⟨by unfold Instr.ready;exact bI⟩
theorem AW(x0):Calm P Any (Instr.ready x0):=K.c
instance (x0 x1 x2):K P (Instr.sliceBound x0 x1 x2):=⟨by unfold Instr.sliceBound;exact bI⟩
instance (x0 x1 x2 x3 x4 x5):K P (Instr.sliceBounds x0 x1 x2 x3 x4 x5):=⟨by unfold Instr.sliceBounds;exact bI⟩
instance (x0 x1 x2 x3 x4):K P (Instr.slice x0 x1 x2 x3 x4):=⟨by unfold Instr.slice;exact bI⟩
instance (x0 x1 x2 x3 x4):K P (Instr.sliceAt x0 x1 x2 x3 x4):=⟨by unfold Instr.sliceAt;exact bI⟩
theorem xU(x0 x1 x2 x3 x4):Calm P Any (Instr.sliceAt x0 x1 x2 x3 x4):=K.c
instance (x0 x1):K P (Instr.arrayAt x0 x1):=⟨by unfold Instr.arrayAt;exact bI⟩
theorem xZ(x0 x1):Calm P Any (Instr.arrayAt x0 x1):=K.c
instance (x0 x1):K P (Builtin.holdsCells x0 x1):=⟨by unfold Builtin.holdsCells;exact bI⟩
instance (x0 x1 x2 x3 x4):K P (pK x0 x1 x2 x3 x4):=⟨by unfold pK;exact bI⟩
theorem uG(x0 x1 x2 x3 x4):Calm P Any (pK x0 x1 x2 x3 x4):=K.c
instance (x0):K P (Builtin.lenOf x0):=⟨by unfold Builtin.lenOf;exact bI⟩
theorem ya(x0):Calm P Any (Builtin.lenOf x0):=K.c
instance (x0 x1 x2):K P (eN x0 x1 x2):=⟨by unfold eN;exact bI⟩
theorem mQ(x0 x1 x2):Calm P Any (eN x0 x1 x2):=K.c
instance (x0 x1 x2):K P (Builtin.cap_ x0 x1 x2):=⟨by unfold Builtin.cap_;exact bI⟩
theorem zN(x0 x1 x2):Calm P Any (Builtin.cap_ x0 x1 x2):=K.c
instance (x0 x1 x2):K P (Builtin.clear_ x0 x1 x2):=⟨by unfold Builtin.clear_;exact bI⟩
theorem wF(x0 x1 x2):Calm P Any (Builtin.clear_ x0 x1 x2):=K.c
theorem pj(x0 x1 x2):Calm P Any (Builtin.close_ x0 x1 x2):=by
 unfold Builtin.close_;obtain⟨l⟩:=x2;rcases l with _|⟨a,_|⟨b,_|⟨c,_|⟨d,l⟩⟩⟩⟩
 all_goals (try dsimp only)
 all_goals (try (cases a<;>try dsimp only))
 all_goals (try (rename_i r;cases r<;>try dsimp only))
 all_goals (try exact bD)
 all_goals (try exact K.c)
 all_goals exact bI
instance (x0 x1 x2):K P (Builtin.close_ x0 x1 x2):=⟨pj x0 x1 x2⟩
instance (x0 x1 x2):K P (Builtin.copy_ x0 x1 x2):=⟨by unfold Builtin.copy_;exact bI⟩
theorem yb(x0 x1 x2):Calm P Any (Builtin.copy_ x0 x1 x2):=K.c
instance (x0 x1 x2):K P (Builtin.delete_ x0 x1 x2):=⟨by unfold Builtin.delete_;exact bI⟩
theorem vx(x0 x1 x2):Calm P Any (Builtin.delete_ x0 x1 x2):=K.c
instance (x0 x1 x2):K P (Builtin.len_ x0 x1 x2):=⟨by unfold Builtin.len_;exact bI⟩
theorem zM(x0 x1 x2):Calm P Any (Builtin.len_ x0 x1 x2):=K.c
instance (x0 x1):K P (Builtin.max2 x0 x1):=⟨by unfold Builtin.max2;exact bI⟩
instance (x0 x1):K P (Builtin.min2 x0 x1):=⟨by unfold Builtin.min2;exact bI⟩
theorem rp(x0 x1 x2):Calm P Any (Builtin.max_ x0 x1 x2):=by
 unfold Builtin.max_;split
 ·first|exact bD|exact cz
 ·refine Cb (fun _ _=>K.c) _ _
instance (x0 x1 x2):K P (Builtin.max_ x0 x1 x2):=⟨rp x0 x1 x2⟩
theorem rj(x0 x1 x2):Calm P Any (Builtin.min_ x0 x1 x2):=by
 unfold Builtin.min_;split
 ·first|exact bD|exact cz
 ·refine Cb (fun _ _=>K.c) _ _
instance (x0 x1 x2):K P (Builtin.min_ x0 x1 x2):=⟨rj x0 x1 x2⟩
theorem sM(x0 x1 x2):Calm P Any (Builtin.unsafeAdd_ x0 x1 x2):=by
 unfold Builtin.unsafeAdd_;obtain⟨l⟩:=x2;rcases l with _|⟨a,_|⟨b,_|⟨c,_|⟨d,l⟩⟩⟩⟩
 all_goals (try dsimp only)
 all_goals (try (cases a<;>try dsimp only))
 all_goals (try (rename_i r;cases r<;>try dsimp only))
 all_goals (try exact bD)
 all_goals (try exact K.c)
 all_goals exact bI
instance (x0 x1 x2):K P (Builtin.unsafeAdd_ x0 x1 x2):=⟨sM x0 x1 x2⟩
theorem kH(x0 x1 x2):Calm P Any (Builtin.ssaWrapNilChk_ x0 x1 x2):=by
 unfold Builtin.ssaWrapNilChk_;obtain⟨l⟩:=x2;rcases l with _|⟨a,_|⟨b,_|⟨c,_|⟨d,l⟩⟩⟩⟩
 ·exact bD
 ·exact bD
 ·exact bD
 ·cases b<;>try exact bD
  cases c<;>try exact bD
  cases a<;>try exact bD
  rename_i s1 s2 r;cases r with
  |some r=>exact cz
  |none=>
   dsimp only;refine aP k9 fun _=>?_
   have key:∀(o:Option aZ),Calm P Any (match o with
     |some pt=>do
      let .pointer t ←iL pt|stuck "ssa:wrapnilchk: pointer type expected"
      let .named name _:=(←lJ t).desc|stuck "ssa:wrapnilchk: defined type expected"
      let some m:=String.fromUTF8? s2|stuck "ssa:wrapnilchk: the method's name is not UTF-8"
      let base:=(name.splitOn "[").headD ""
      let targs:=if base==name then "" else "[...]"
      match ((base.splitOn "/").getLastD "").splitOn "." with
      |[_,typ]=>
       eo (.plain ("value method "++toString base++toString targs++ "."++toString m++ " called using nil *"++toString typ++toString targs++ " pointer"))
      |_=>qJ (.noEntry "builtin/ssaWrapNilChk.dot in the package path")
     |_=>stuck "ssa:wrapnilchk: no argument types" : ic aj):=by
    intro o;cases o with
    |none=>exact bD
    |some pt=>
     refine aP (K.c) fun u=>?_;cases u<;>try exact bD
     refine aP (K.c) fun u=>?_;generalize u.desc=d;cases d<;>try exact bD
     dsimp only;generalize String.fromUTF8? s2=o2;cases o2<;>try exact bD
     dsimp only
     generalize String.splitOn _ "." = sp;split
     ·exact K.c
     ·exact dJ
   split
   ·exact aP (K.c) fun _=>key _
   ·exact key _
 ·exact bD
instance (x0 x1 x2):K P (Builtin.ssaWrapNilChk_ x0 x1 x2):=⟨kH x0 x1 x2⟩
theorem sJ(t x):Calm P Any (Instr.range t x):=by
 unfold Instr.range;refine aP (K.c) fun _=>?_
 repeat' (first|exact cz|exact bD|exact dJ|exact(ER rfl)|exact(kZ ‹_›)|(with_reducible apply mM;exact rfl)|(with_reducible refine qu ?_ (fun o ho=>by cases o<;>first|rfl|(revert ho;simp[fO];done)))|(refine jZ (fun _ _=>?_) ?_)|(refine eC (R:=fun o=>fO o=true) ?_ (fun _ _=>?_))|(refine aP ?_ (fun _=>?_))|split|dsimp only)
instance (t x):K P (Instr.range t x):=⟨sJ t x⟩
instance (x0 x1 x2 x3):K P (Instr.typeAssert x0 x1 x2 x3):=⟨by unfold Instr.typeAssert;exact bI⟩
theorem uC(x0 x1 x2 x3):Calm P Any (Instr.typeAssert x0 x1 x2 x3):=K.c
instance (x0 x1 x2):K P (movedNumber x0 x1 x2):=⟨by unfold movedNumber;exact bI⟩
instance (x0 x1 x2):K P (movedPointer x0 x1 x2):=⟨by unfold movedPointer;exact bI⟩
instance (x0 x1 x2 x3 x4 x5):K P (eqGuard x0 x1 x2 x3 x4 x5):=⟨by unfold eqGuard;exact bI⟩
theorem Jj(x0 x1 x2 x3 x4 x5):Calm P Any (eqGuard x0 x1 x2 x3 x4 x5):=K.c
theorem EX(x0 x1 x2 x3):Calm P Any (binOp x0 x1 x2 x3):=by
 unfold binOp
 all_goals exact bI
instance (x0 x1 x2 x3):K P (binOp x0 x1 x2 x3):=⟨EX x0 x1 x2 x3⟩
theorem zI(x0 x1 x2):Calm P Any (convert x0 x1 x2):=by
 unfold convert
 all_goals exact bI
instance (x0 x1 x2):K P (convert x0 x1 x2):=⟨zI x0 x1 x2⟩
end
section
variable{P:aI}
theorem Ui{β:Type}{Q:β→Prop}{c:Prop}[Decidable c]{s t:ic β}(hs:Calm P Q s)(ht:Calm P Q t):Calm P Q (if c then s else t):=by
 split
 ·exact hs
 ·exact ht
theorem LI:JB .env:=fun os=>⟨.strings os.env,rfl,by simp⟩
theorem F0:Calm P Any Instr.panicnil:=by
 unfold Instr.panicnil;refine aP (?_:Calm P Any (sys .env)) fun r=>?_
 ·exact⟨LI,fun _=>trivial⟩
 ·split
  ·exact aP jq fun _=>cz
  ·exact bD
theorem sK(x):Calm P Any (Instr.panic x):=by
 unfold Instr.panic;split
 ·exact kj
 ·refine aP F0 fun n=>?_;split
  ·exact kj
  ·exact iq _
 ·exact bD
theorem AU(zeros:Bool)(x0:Array aZ)(x:aj)(elem:aZ)(size oW Dt n:Nat)(base:Option cU)(s:aj)(appended:ic (Array aj))(ha:Calm P Any appended) :
  Calm P Any (if oW+n≤Dt then do
    let new ←appended
    if let some a:=base then storeCells (a.add (oW*size)) new.toList
    pure (.slice base (oW+n) Dt)
   else do
    if ((oW+n:Nat):Int)>IntKind.i64.max∧(zeros=true∨(←lJ elem).bytes=0) then eo (.error "growslice: len out of range")
    if Builtin.nextslicecap (oW+n) Dt*(←lJ elem).bytes>2 ^ 48 then(if zeros=true then eo (.error "growslice: len out of range") else do
     if !(←pK size oW n base x) then mark .noRoom
     qJ (.resourceLimit "append: a slice or a string whose bytes no memory bears"))
    let mf ←choose (.appendCap (oW+n) Dt elem)
    askRoom (mf*(←lJ elem).bytes)
    let old ←eN size oW s;let new ←appended;let rest:=fH (←iI elem).cells (mf-(oW+n))
    pure (.slice (some (←newRow elem (old++new++rest))) (oW+n) mf:aj):ic aj):=by
 repeat' (first
   |with_reducible exact ha|with_reducible exact cz|with_reducible exact dJ|with_reducible exact k9|with_reducible exact nh|with_reducible exact oL
   |with_reducible exact iq ..|with_reducible exact jv ..|with_reducible exact ng ..|with_reducible exact LB ..|with_reducible exact uh ..|with_reducible exact mQ ..|with_reducible exact uG ..
   |(refine aP ?_ (fun _=>?_))|split|dsimp only)
theorem vy(x0 x1 x2):Calm P Any (j6 x0 x1 x2):=by
 unfold j6;split
 ·rename_i ah9 s x _;refine aP (gD ..) fun u=>?_;split
  ·rename_i elem;split
   ·rename_i base oW Dt _;refine aP (Lz ..) fun size=>?_
    have key:∀(zeros:Bool) (n:Nat),Calm P Any (if oW+n≤Dt then do
      let new ←(if !zeros then eN size n x else if n*size=0 then pure #[] else do pure (fH (←iI elem).cells n):ic (Array aj))
      if let some a:=base then storeCells (a.add (oW*size)) new.toList
      pure (.slice base (oW+n) Dt)
     else do
      if ((oW+n:Nat):Int)>IntKind.i64.max∧(zeros=true∨(←lJ elem).bytes=0) then eo (.error "growslice: len out of range")
      if Builtin.nextslicecap (oW+n) Dt*(←lJ elem).bytes>2 ^ 48 then(if zeros=true then eo (.error "growslice: len out of range") else do
       if !(←pK size oW n base x) then mark .noRoom
       qJ (.resourceLimit "append: a slice or a string whose bytes no memory bears"))
      let mf ←choose (.appendCap (oW+n) Dt elem)
      askRoom (mf*(←lJ elem).bytes)
      let old ←eN size oW (.slice base oW Dt);let new ←(if !zeros then eN size n x else if n*size=0 then pure #[] else do pure (fH (←iI elem).cells n):ic (Array aj))
      let rest:=fH (←iI elem).cells (mf-(oW+n))
      pure (.slice (some (←newRow elem (old++new++rest))) (oW+n) mf:aj):ic aj):=by
     intro zeros n;refine AU zeros x0 x elem size oW Dt n base _ _ ?_;split
     ·exact mQ ..
     ·split
      ·exact cz
      ·exact aP (ng ..) fun _=>cz
    dsimp only
    repeat' (first
     |with_reducible exact cz|with_reducible exact bD|with_reducible exact k9|with_reducible exact iq ..|with_reducible exact gD ..|with_reducible exact qB ..|with_reducible exact jv ..|with_reducible exact ya ..
     |exact key _ _|(with_reducible refine Ui ?_ ?_)|(refine aP ?_ (fun _=>?_))|split)
   ·exact bD
  ·exact bD
 ·exact bD
end
def eG:Next→Prop
 |.value _|.skip|.enter ..|.recover|.comm ..=>True
 |.round _ _ _ assign body=>dP assign=true∧dP body=true
 |.defer d|.spawn d=>pg d=true
 |_=>False
structure Uv(P:aI):Prop where
 body:∀(f:dR) (fn:Func) (c:Code),P.funcs[f]?=some fn→fn.body=some c→dP c=true
 ext:∀(f:dR) (fn:Func) (args:Array aj),P.funcs[f]?=some fn→fn.body=none→Calm P eG (fo f args)
 name:∀(f:dR) (fn:Func),P.funcs[f]?=some fn→(fn.name == "runtime.NumGoroutine")=false
section
variable{P:aI}
theorem eW{α:Type}{Q:α→Prop}(e):Calm P Q (eo e:ic α):=by
 unfold eo
 repeat' (first
   |with_reducible exact kj|with_reducible exact jq|with_reducible exact LG ..|with_reducible exact LA ..|(refine aP ?_ (fun _=>?_))|split|dsimp only)
theorem Jl(b ats t cs args)(hb:Ak b=true):Calm P eG (builtin b ats t cs args):=by
 cases b<;>first|(exact absurd hb (by decide))|skip
 all_goals unfold builtin
 all_goals dsimp only
 all_goals first
  |exact aP (vy ..) fun _=>trivial
  |exact aP (zN ..) fun _=>trivial
  |exact aP (wF ..) fun _=>trivial
  |exact aP (pj ..) fun _=>trivial
  |exact aP (yb ..) fun _=>trivial
  |exact aP (vx ..) fun _=>trivial
  |exact aP (zM ..) fun _=>trivial
  |exact aP (rp ..) fun _=>trivial
  |exact aP (rj ..) fun _=>trivial
  |exact aP (sK ..) fun _=>trivial
  |trivial
theorem rG(T:Uv P)(f args):Calm P eG (fo f args):=by
 cases hf:P.funcs[f]? with
 |none=>
  unfold fo;refine eC (R:=fun p=>p=P) (show P=P from rfl) ?_;rintro p rfl;rw[hf];exact bD
 |some fn=>
  cases hb:fn.body with
  |none=>exact T.ext f fn args hf hb
  |some c=>
   unfold fo;refine eC (R:=fun p=>p=P) (show P=P from rfl) ?_;rintro p rfl;rw[hf];simp only[T.name f fn hf,hb,Option.isNone_some,bw,if_false];exact trivial
theorem qC(t x):Calm P Any (Place.get t x):=by
 cases x
 ·exact cz
 ·exact tK ..
theorem Ca(l t x):Calm P Any (follow l t x):=by
 induction l generalizing t x with
 |nil=>exact cz
 |cons s l ih=>
  unfold follow
  repeat' (first
   |with_reducible exact cz|with_reducible exact bD|with_reducible exact gD ..|with_reducible exact mP ..|with_reducible exact qC ..|with_reducible exact Cw ..|with_reducible exact Hc ..|exact ih ..
   |(refine aP ?_ (fun _=>?_))|split)
theorem ui(a b c d):Calm P Any (receiverAt a b c d):=by
 unfold receiverAt
 repeat' (first
   |with_reducible exact cz|with_reducible exact bD|with_reducible exact gD ..|with_reducible exact mP ..|with_reducible exact qC ..|with_reducible exact tK ..|with_reducible exact kH ..
   |(refine aP ?_ (fun _=>?_))|split)
theorem AO(a b c d):Calm P Any (receiverVia a b c d):=by
 unfold receiverVia;refine aP (Ca ..) fun _=>?_;exact ui ..
theorem LC(n t v s):Calm P Any (method n t v s):=by
 induction n generalizing t v with
 |zero=>exact dJ
 |succ n ih=>
  unfold method
  repeat' (first
   |with_reducible exact cz|with_reducible exact bD|with_reducible exact iq ..|with_reducible exact jv ..|with_reducible exact Ca ..|with_reducible exact qC ..|with_reducible exact ui ..|exact ih ..
   |(refine aP ?_ (fun _=>?_))|split)
theorem AP(l t x):Calm P Any (followBlind l t x):=by
 induction l generalizing t x with
 |nil=>exact cz
 |cons s l ih=>
  unfold followBlind
  repeat' (first
   |with_reducible exact cz|with_reducible exact bD|with_reducible exact gD ..|with_reducible exact Hc ..|exact ih ..
   |(refine aP ?_ (fun _=>?_))|split)
theorem F2(n t v s):Calm P Any (nilAhead n t v s):=by
 induction n generalizing t v with
 |zero=>exact cz
 |succ n ih=>
  unfold nilAhead
  repeat' (first
   |with_reducible exact cz|with_reducible exact bD|with_reducible exact jv ..|with_reducible exact gD ..|with_reducible exact AP ..|exact ih ..
   |(refine aP ?_ (fun _=>?_))|split)
theorem uj(T:Uv P)(r n args):Calm P eG (callMethod r n args):=by
 unfold callMethod;split
 ·exact aP jq fun _=>aP (LC ..) fun _=>rG T ..
 ·exact eW _
 ·exact bD
theorem lD(l):Calm P (fun r=>xr r=true) (Instr.getLoop l):=by
 unfold Instr.getLoop;refine jZ (fun o ho=>?_) (mM rfl);split
 ·exact ho
 ·exact bD
theorem NM(l args):Calm P eG (Instr.yield l args):=by
 unfold Instr.yield;refine eC (lD l) fun r hr=>?_
 have cN:dP r.assign=true∧dP r.body=true:=by
  simp only[xr,aD] at hr;exact⟨hr.1.2,hr.2⟩
 split
 ·exact aP bD fun _=>cN
 ·exact cN
theorem rf(T:Uv P)(t args)(ht:Kk t=true):Calm P eG (invoke t args):=by
 unfold invoke;split
 ·exact eW _
 ·exact Jl _ _ _ _ _ ht
 ·exact rG T ..
 ·split
  ·exact uj T ..
  ·exact bD
 ·split
  ·refine aP (gD ..) fun _=>?_;exact uj T ..
  ·exact bD
 ·split
  ·refine aP (AO ..) fun _=>?_;exact rG T ..
  ·exact bD
 ·exact NM _ _
 ·exact bD
 ·cases ht
theorem lz(ρ c t)(hc:Iw c=true):Calm P (fun d=>pg d=true) (resolve ρ c t):=by
 unfold resolve;unfold Iw at hc;split
 ·rename_i b hb;rw[hb] at hc;exact hc
 ·show pg _=true;rfl
 ·unfold Deferred.ofValue;split
  ·show pg _=true;rfl
  ·show pg _=true;rfl
  ·exact bD
theorem dY{s:ic aj}(h:Calm P Any s):Calm P eG (do pure (.value (←s))):=aP h fun _=>trivial
theorem sH{s:ic Unit}(h:Calm P Any s):Calm P eG (do s;pure .skip):=aP h fun _=>trivial
theorem LD(T:Uv P)(ρ o)(ho:Aj o=true):Calm P eG (execOp ρ o):=by
 unfold Aj at ho;unfold execOp;cases hop:o.op with
 |nilCheck x=>
  dsimp only
  repeat' (first|with_reducible exact eW _|with_reducible exact jq|with_reducible exact F2 ..|with_reducible exact dJ|exact ER (show eG _ from trivial)|(refine aP ?_ (fun _=>?_))|split)|call c=>
  rw[hop] at ho;exact eC (lz _ _ _ ho) fun d hd=>rf T _ _ hd
 |go c=>
  rw[hop] at ho;exact eC (lz _ _ _ ho) fun d hd=>hd
 |defer c=>
  rw[hop] at ho;exact eC (lz _ _ _ ho) fun d hd=>hd
 |recv ct ch ok=>
  dsimp only;refine aP (gD ..) fun _=>?_;split
  ·exact aP (ng ..) fun _=>trivial
  ·exact bD
 |select cs b=>
  dsimp only;exact aP (qa (fun _=>aP (ng ..) fun _=>cz) _) fun _=>trivial
 |pick c a b=>
  dsimp only;refine aP (LH ..) fun _=>?_;exact trivial
 |binOp op t x y u=>exact dY (aP (Jj ..) fun _=>EX ..)
 |alloc=>exact dY (A1 ..)
 |box=>exact dY (EY ..)
 |build=>exact dY (A0 ..)
 |buildSlice=>exact dY (uF ..)
 |load=>exact dY (zL ..)
 |store=>exact sH (xT ..)
 |ready=>exact sH (AW _)
 |waits=>exact dY (AV _)
 |sliceToArrayPointer=>exact dY (xZ ..)
 |makeInterface=>exact dY (rI ..)
 |makeFunc=>exact dY (wC ..)
 |makeMap=>exact dY (xV ..)
 |makeChan=>exact dY (wD ..)
 |makeSlice=>exact dY (vw ..)
 |slice=>exact dY (xU ..)
 |fieldAddr=>exact dY (xX ..)
 |field=>exact dY (AY ..)
 |indexAddr=>exact dY (xW ..)
 |index=>exact dY (AX ..)
 |lookup=>exact dY (zK ..)
 |mapUpdate=>exact sH (oM ..)
 |insert=>exact sH (oM ..)
 |mapEntry=>exact dY (wB ..)
 |entryStore=>exact sH (uE ..)
 |range=>exact dY (sJ ..)
 |next=>exact dY (CB ..)
 |entry=>exact dY (AZ ..)
 |typeAssert=>exact dY (uC ..)
 |extract=>exact dY (xY ..)
 |panic=>exact dY (sK ..)
 |unOp=>exact dY (F4 ..)
 |convert=>exact dY (zI ..)
 |move|assign|send=>exact(show eG _ from trivial)
theorem EW(fn tmps params assign body around)(ha:dP assign=true)(hb:dP body=true):Calm P (fun r=>r.2.all pg=true) (Instr.enterLoop fn tmps params assign body around):=by
 unfold Instr.enterLoop
 extract_lets jp
 have hjp:∀x:Nat × List Deferred,x.2.all pg=true→Calm P (fun r=>r.2.all pg=true) (jp x):=by
  rintro⟨d,m⟩ hm;refine aP (kZ ?_) fun _=>hm;simp[fO,xr,ha,hb]
 clear_value jp
 split
 ·exact eC (lD _) fun _ _=>hjp _ rfl
 ·exact aP (kZ rfl) fun _=>hjp _ rfl
theorem Cz(l):Calm P Any (Instr.beginRound l):=by
 unfold Instr.beginRound;refine eC (lD l) fun r hr=>aP (iH hr) fun _=>?_;split<;>first|exact cz|exact iq _
theorem F3(l jump)(hj:jump.all dP=true):Calm P Any (Instr.endRound l jump):=by
 unfold Instr.endRound;refine eC (lD l) fun r hr=>aP (iH ?_) fun _=>cz;simp only[xr,aD] at hr;simp[fO,xr,hj,hr.1.2,hr.2]
theorem Jk(l):Calm P (fun j:Option Code=>j.all dP=true) (Instr.endLoop l):=by
 unfold Instr.endLoop;refine eC (lD l) fun r hr=>?_
 have hp:r.pending.all dP=true:=by
  simp only[xr,aD] at hr;exact hr.1.1
 dsimp only;split
 ·exact aP (eW _) fun _=>aP (iH hr) fun _=>hp
 ·exact aP (iH hr) fun _=>hp
theorem zH(l d)(hd:pg d=true):Calm P Any (Instr.deferInRound l d):=by
 unfold Instr.deferInRound;refine eC (lD l) fun r hr=>jZ (fun o ho=>?_) (mM rfl);split
 ·refine iH ?_;simp only[fO,dN,hd,Bool.true_and];exact ho
 ·exact qz
 ·exact bD
theorem zF(b):Calm P (fun ds:List Deferred=>ds.all pg=true) (Instr.takeDeferred b):=by
 unfold Instr.takeDeferred;refine jZ (fun o ho=>?_) (mM rfl);split
 ·exact aP (iH rfl) fun _=>ho
 ·exact bD
theorem zG(fn tmps):Calm P Any (results fn tmps):=by
 unfold results;refine aP (qa (fun r=>?_) _) fun _=>cz;split
 ·exact cz
 ·exact aP (mP ..) fun _=>tK ..
end
def dB(w:ar):Prop:=∀(b:Nat) (o:Obj),w.heap[b]?=some o→fO o=true∨o=.coro none
def A6(B:Nat)(e:fQ):Prop:=
 (∃a,e.loc=.cell a∧a.block<B)∨(∃r,e.loc=.obj r∧r<B)∨e.loc=.output∨e.loc=.mark .noRoom∨∃f,e.loc=.mark (.extern f)
theorem A6.mono{B B':Nat}{e:fQ}(h:A6 B e)(hB:B≤B'):A6 B' e:=by
 rcases h with⟨a,h1,h2⟩|⟨r,h1,h2⟩|h|h|h
 ·exact .inl ⟨a,h1,by omega⟩
 ·exact .inr (.inl ⟨r,h1,by omega⟩)
 ·exact .inr (.inr (.inl h))
 ·exact .inr (.inr (.inr (.inl h)))
 ·exact .inr (.inr (.inr (.inr h)))
theorem Pe{w:ar}{a:cU}{v:aj}(h:w.cell? a=some v):a.block<w.heap.size:=by
 unfold World.cell? at h;rcases Nat.lt_or_ge a.block w.heap.size with hl|hl
 ·exact hl
 ·rw[fg hl] at h;cases h
theorem eE{w:ar}{r:Nat}{o:Obj}(h:w.heap[r]?=some o):r<w.heap.size:=(ak.1 h).1
theorem Dr{p:aI}{w:ar}{at_:cU}{u:aZ}{k:cU}{b:Bool}{x}(h:w.seen p at_ u k b=.ok x):at_.block<w.heap.size:=by
 unfold World.seen at h;rcases Nat.lt_or_ge at_.block w.heap.size with hl|hl
 ·exact hl
 ·simp only[fg hl,Bind.bind,Except.bind,eH,Except.pure,throw,throwThe,MonadExceptOf.throw] at h
  repeat' (first|(split at h)|(cases h;done))
theorem La{p:aI}{w:ar}{a:cU}{b:Bool}{v:aj}{l:List cU}(h:w.farLoad p a b=.ok (v,l)):∀x∈l,x.block<w.heap.size:=by
 unfold World.farLoad at h;split at h
 ·rename_i at_ u _;unfold World.viewLoad at h;generalize hs:w.seen p at_ u a b=s at h;cases s with
  |error e=>simp only[Bind.bind,Except.bind] at h;cases h
  |ok s=>
   have hb:=Dr hs;obtain⟨c,e,fz,first,like,cells⟩:=s;simp only[Bind.bind,Except.bind,eH,Except.pure] at h;generalize like.ofBytes _=o at h;cases o with
   |none=>cases h
   |some v'=>
    simp only at h;cases h;intro x hx;obtain⟨y,_,rfl⟩:=List.mem_map.1 hx;exact hb
 ·cases h
theorem Jc{p:aI}{w w':ar}{a:cU}{v:aj}{b:Bool}{l:List cU}(h:w.farStore p a v b=.ok (w',l)) :
  (∀x∈l,x.block<w.heap.size)∧w'.heap.size=w.heap.size∧w'.tape=w.tape∧w'.drawn=w.drawn∧(dB w→dB w'):=by
 unfold World.farStore at h;split at h
 ·rename_i at_ u _;unfold World.viewStore at h;generalize hs:w.seen p at_ u a b=s at h;cases s with
  |error e=>by_cases ht:tight p p.depth u<;>simp only[ht] at h<;>cases h
  |ok s=>
   have hb:=Dr hs;obtain⟨c,e,fz,first,like,cells⟩:=s
   by_cases ht:tight p p.depth u
   ·simp only[ht,Bind.bind,Except.bind,eH,Except.pure] at h;simp only[CL,bw,if_false] at h;cases hv:v.bytes? with
    |none=>rw[hv] at h;cases h
    |some bytes=>
     rw[hv] at h;simp only[] at h;split at h
     all_goals
      rename_i r hr;split at hr
      ·cases hr<;>cases h
      ·generalize (List.foldlM _ c cells:Except String (Array aj))=r' at hr;cases r'<;>cases hr<;>cases h<;>refine⟨fun x hx=>?_,by simp,rfl,rfl,fun hk b o ho=>?_⟩
       all_goals first
        |(obtain⟨y,_,rfl⟩:=List.mem_map.1 hx;exact hb)
        |(by_cases e1:at_.block=b
          ·subst e1;simp only[Array.getElem?_setIfInBounds_self_of_lt hb,Option.some.injEq] at ho;subst ho;exact .inl rfl
          ·simp only[aA e1] at ho
           exact hk _ _ ho)
   ·simp only[ht] at h;cases h
 ·cases h
class uq where
 κ:Nat→Option Obj
structure jk[K:uq](lw w:ar):Prop where
 size:lw.heap.size=w.heap.size
 os:lw.os=w.os
 out:lw.output=w.output
 at_:∀b:Nat,lw.heap[b]?=w.heap[b]?∨(lw.heap[b]?=some (.coro none)∧∃o,w.heap[b]?=some o∧fO o=false)
 old:∀b x,K.κ b=some x→b<lw.heap.size
 kept:∀b x,K.κ b=some x→lw.heap[b]?=some (.coro none)→w.heap[b]?=some x
theorem jN{o:Obj}(h:fO o=false):(∀c t f,o≠.cells c t f)∧(∀c t,o≠.pending c t)∧(∀a t,o≠.view a t)∧o.isChan=false:=by
 cases o<;>simp_all [fO,Obj.isChan]
section
variable[uq]{lw w:ar}(V:jk lw w)
include V
theorem rS(τ d):jk lw (dx w τ d):=⟨V.size,V.os,V.out,V.at_,V.old,V.kept⟩
theorem vD(a:cU):w.cell? a=lw.cell? a:=by
 unfold World.cell?;rcases V.at_ a.block with h|⟨h1,o,h2,h3⟩
 ·rw[h]
 ·have:=(jN h3).1;rw[h1,h2];cases o<;>simp_all
theorem Mr(r:Nat):w.shape? r=lw.shape? r:=by
 unfold World.shape?;rcases V.at_ r with h|⟨h1,o,h2,h3⟩
 ·rw[h]
 ·have:=(jN h3).1;rw[h1,h2];cases o<;>simp_all
theorem uL(a:cU):w.frozen? a=lw.frozen? a:=by
 unfold World.frozen?;rcases V.at_ a.block with h|⟨h1,o,h2,h3⟩
 ·rw[h]
 ·have:=(jN h3).1;rw[h1,h2];cases o<;>simp_all
theorem Gj(p:aI)(x u k b):w.seen p x u k b=lw.seen p x u k b:=by
 unfold World.seen;rcases V.at_ x.block with h|⟨h1,o,h2,h3⟩
 ·rw[h]
 ·have:=(jN h3).1;rw[h1,h2];cases o<;>first|rfl|(exact absurd rfl (this _ _ _))
theorem PA(p:aI)(a b):w.farLoad p a b=lw.farLoad p a b:=by
 unfold World.farLoad World.noCell World.viewLoad;simp only[Gj V];rcases V.at_ a.block with h|⟨h1,o,h2,h3⟩
 ·rw[h]
 ·obtain⟨h4,h5,h6,_⟩:=jN h3;rw[h1,h2];cases o<;>first|rfl|(exact absurd rfl (h5 _ _))|(exact absurd rfl (h6 _ _))
theorem RP(o:Obj):jk { lw with heap:=lw.heap.push o } { w with heap:=w.heap.push o }:=by
 refine⟨by simp[V.size],V.os,V.out,fun b=>?_,fun b x h=>by have:=V.old b x h;simp;omega,fun b x h=>?_⟩
 ·simp only[kN,V.size];split
  ·exact .inl rfl
  ·exact V.at_ b
 ·have h1:=V.old b x h;have h2:=V.size;simp only[kN];rw[if_neg (by omega),if_neg (by omega)];exact V.kept b x h
theorem yu(r:Nat)(o:Obj)(hk:fO o=true):jk { lw with heap:=lw.heap.setIfInBounds r o } { w with heap:=w.heap.setIfInBounds r o }:=by
 refine⟨by simp[V.size],V.os,V.out,fun b=>?_,fun b x h=>by simpa using V.old b x h,fun b x h=>?_⟩
 ·by_cases e:r=b
  ·subst e;left;simp only[bA,if_true,V.size]
  ·simp only[aA e];exact V.at_ b
 ·by_cases e:r=b
  ·subst e;have h1:=V.old r x h;simp only[bA,if_true];rw[if_pos h1];intro h2;cases h2;cases hk
  ·simp only[aA e];exact V.kept b x h
theorem Bj(r:Nat)(f:Obj→Obj)(hf:∀o,(∀c t z,o≠.cells c t z)→f o=o)(hf2:∀o,f o=.coro none→o=.coro none):jk { lw with heap:=lw.heap.modify r f } { w with heap:=w.heap.modify r f }:=by
 refine⟨by simp[V.size],V.os,V.out,fun b=>?_,fun b x h=>by simpa using V.old b x h,fun b x h=>?_⟩
 ·simp only[o8];split
  ·rename_i e;subst e;rcases V.at_ r with h|⟨h1,o,h2,h3⟩
   ·rw[h];exact .inl rfl
   ·right;refine⟨by rw[h1];simp only[dI];rw[hf];intro c t z;exact nofun,o,by rw[h2];simp only[dI];rw[hf _ (jN h3).1],h3⟩
  ·exact V.at_ b
 ·simp only[o8];split
  ·rename_i e;subst e;intro h1;obtain⟨o,h2,h3⟩:=eD.1 h1;obtain rfl:=hf2 o h3;have h4:=V.kept r x h h2;rcases V.at_ r with h5|⟨_,o,h5,h6⟩
   ·rw[h2,h4] at h5;cases h5;rw[h4];simp only[dI];rw[h3]
   ·rw[h4] at h5;cases h5;rw[h4];simp only[dI];rw[hf _ (jN h6).1]
  ·exact V.kept b x h
theorem JS(a:cU)(n:Nat):jk (lw.freeze a n) (w.freeze a n):=by
 unfold World.freeze;split
 ·exact V
 ·exact Bj V _ _ (fun o h=>by cases o<;>first|rfl|exact absurd rfl (h _ _ _)) fun o h=>by cases o<;>first|exact h|cases h
theorem Ht(a:cU)(v:aj):jk (lw.setCell a v) (w.setCell a v):=by
 unfold j3;exact Bj V _ _ (fun o h=>by cases o<;>first|rfl|exact absurd rfl (h _ _ _)) fun o h=>by cases o<;>first|exact h|cases h
end
theorem Ni{w:ar}(h:dB w){o:Obj}(ho:fO o=true):dB { w with heap:=w.heap.push o }:=fun b x hx=>by
 simp only[kN] at hx;split at hx
 ·cases hx;exact .inl ho
 ·exact h b x hx
theorem xJ{w:ar}(h:dB w){r:Nat}{o:Obj}(ho:fO o=true):dB { w with heap:=w.heap.setIfInBounds r o }:=fun b x hx=>by
 by_cases e:r=b
 ·subst e;simp only[bA,if_true] at hx;split at hx
  ·cases hx;exact .inl ho
  ·cases hx
 ·simp only[aA e] at hx;exact h b x hx
theorem wS{w:ar}(h:dB w){r:Nat}{f:Obj→Obj}(hf:∀o,fO o=true→fO (f o)=true)(hk:f (.coro none)=.coro none):dB { w with heap:=w.heap.modify r f }:=fun b x hx=>by
 simp only[o8] at hx;split at hx
 ·rename_i e;subst e;obtain⟨y,hy,rfl⟩:=eD.1 hx;rcases h _ _ hy with h'|rfl
  ·exact .inl (hf _ h')
  ·exact .inr hk
 ·exact h b x hx
theorem FP{w:ar}(h:dB w)(a:cU)(n:Nat):dB (w.freeze a n):=by
 unfold World.freeze;split
 ·exact h
 ·exact wS h (fun o ho=>by cases o<;>first|exact ho|rfl) rfl
theorem Et{w:ar}(h:dB w)(a:cU)(v:aj):dB (w.setCell a v):=by
 unfold j3;exact wS h (fun o ho=>by cases o<;>first|exact ho|rfl) rfl
def Al{α:Type}:Except Halt α→ar→Result α
 |.ok a,w=>.ok a w
 |.error h,w=>.halt h w
def OkR{α:Type}(Q:α→Prop):Except Halt α→Prop
 |.ok a=>Q a
 |.error h=>h≠.blocked∧h≠.waiting
structure Pn[uq](P:aI){α:Type}(Q:α→Prop)(s:ic α)(lw w ep w':ar)(k:Nat)(r:Except Halt α)(new:Array fQ):Prop where
 tape:ep.tape=lw.tape
 drawn:ep.drawn=lw.drawn+k
 grows:lw.heap.size≤ep.heap.size
 ok:dB ep
 evs:∀e∈new,A6 ep.heap.size e
 sU:jk ep w'
 res:OkR Q r
 lone:∀es,s.runT P lw es=(Al r ep,es++new)
 many:∀τ d,Agree k lw.tape lw.drawn τ d→∀es,s.runT P (dx w τ d) es=(Al r (dx w' τ (d+k)),es++new)
def Xl(P:aI){α:Type}(s:ic α)(lw:ar):Prop:=∃why ep,∀es,∃es',s.runT P lw es=(.halt (.stuck why) ep,es')
theorem JV{c:Sys}(h:JB c)(w:ar):∃r,(Kernel.perform c w.os=.done (r,w.os))∧w.sys c=(r,w):=by
 obtain⟨r,h1,h2⟩:=h w.os;refine⟨r,h1,?_⟩;unfold World.sys;rw[h1];cases r<;>first|rfl|exact absurd rfl h2
section
variable{P:aI}{α:Type}{Q:α→Prop}
theorem NV{k:Nat}{τ τ':Nat→dE→Nat}{d d':Nat}(h:Agree (k+1) τ d τ' d'):Agree k τ (d+1) τ' (d'+1):=fun i hi=>by
 have:=h (i+1) (by omega);rwa [show d+(i+1)=d+1+i by omega,show d'+(i+1)=d'+1+i by omega] at this
theorem Pn.cons[uq]{s t:ic α}{lw w mZ w₁ ep w':ar}{k:Nat}{r:Except Halt α}{new:Array fQ}(pre:Array fQ)
  (h:Pn P Q t mZ w₁ ep w' k r new) (ht:mZ.tape=lw.tape) (hd:mZ.drawn=lw.drawn) (hs:lw.heap.size≤mZ.heap.size) (he:∀e∈pre,A6 mZ.heap.size e)
  (hl:∀es,s.runT P lw es=t.runT P mZ (es++pre)) (hm:∀τ d es,s.runT P (dx w τ d) es=t.runT P (dx w₁ τ d) (es++pre)) :
  Pn P Q s lw w ep w' k r (pre++new) where
 tape:=h.tape.trans ht
 drawn:=by rw[h.drawn,hd]
 grows:=aN hs h.grows
 ok:=h.ok
 evs e hx:=by
  rcases Gf.1 hx with hx|hx
  ·exact(he e hx).mono h.grows
  ·exact h.evs e hx
 sU:=h.sU
 res:=h.res
 lone es:=by rw[hl,h.lone,Array.append_assoc]
 many τ d ha es:=by rw[hm,h.many τ d (by rwa [ht,hd]),Array.append_assoc]
theorem Xl.cons{s t:ic α}{lw mZ:ar}(pre:Array fQ)(h:Xl P t mZ)(hl:∀es,s.runT P lw es=t.runT P mZ (es++pre)):Xl P s lw:=by
 obtain⟨why,ep,h⟩:=h;exact⟨why,ep,fun es=>by rw[hl];exact h _⟩
theorem Pn.halted[uq]{lw w:ar}{h:Halt}{s:ic α}(cN:dB lw)(V:jk lw w)(hh:h≠.blocked∧h≠.waiting)
  (hl:∀es,s.runT P lw es=(.halt h lw,es)) (hm:∀τ d es,s.runT P (dx w τ d) es=(.halt h (dx w τ d),es)):Pn P Q s lw w lw w 0 (.error h) #[] where
 tape:=rfl
 drawn:=rfl
 grows:=ax _
 ok:=cN
 evs:=by simp
 sU:=V
 res:=hh
 lone es:=by rw[hl];simp only[dU];rfl
 many τ d _ es:=by rw[hm];simp only[dU];rfl
end
section
variable{P:aI}{α:Type}{Q:α→Prop}
theorem tF{B:Nat}{e:fQ}(h:A6 B e):∀x∈#[e],A6 B x:=fun x hx=>by
 have:x=e:=by simpa using hx
 rw[this];exact h
theorem G5{B:Nat}{l:List cU}{wr s:Bool}(h:∀x∈l,x.block<B):∀e∈(l.toArray.map (fun a=>(⟨.cell a,wr,s⟩:fQ))),A6 B e:=fun e he=>by
 obtain⟨a,ha,rfl⟩:=Array.mem_map.1 he;exact .inl ⟨a,rfl,h a (by simpa using ha)⟩
theorem kV(m:Mode)(a:cU)(v:aj)(k:ic α)(h1:∀x,v≠.agg x)(h2:∀x,v≠.tuple x)(w:ar)(es:Array fQ):(Sem.store m a v k).runT P w es =
  match w.cell? a with
  |some _=>
   if w.frozen? a then(.halt (.unsupported (.unsafePointer "a write to bytes that a string shares")) w,es)
   else k.runT P (w.setCell a v) (es.push ⟨.cell a,true,m == .atomic⟩)
  |none=>match w.farStore P a v (m == .atomic) with
   |.ok (w,sX)=>k.runT P w (es++sX.toArray.map (⟨.cell ·,true,m == .atomic⟩))
   |.error h=>(.halt h w,es):=by
 cases v<;>first|rfl|exact absurd rfl (h1 _)|exact absurd rfl (h2 _)
theorem D7{s:String}:Halt.stuck s≠.blocked∧Halt.stuck s≠.waiting:=by constructor<;>simp
theorem Iz{u:Unsupported}:Halt.unsupported u≠.blocked∧Halt.unsupported u≠.waiting:=by constructor<;>simp
def Twin(x:Nat)(W W':ar)(r r':Except String (ar × List cU)):Prop:=
 ∃r0:Except String (Obj × List cU),r=(r0.map fun y=>({ W with heap:=W.heap.setIfInBounds x y.1 },y.2))∧r'=(r0.map fun y=>({ W' with heap:=W'.heap.setIfInBounds x y.1 },y.2))∧∀y,r0=.ok y→fO y.1=true
theorem Dd(p:aI)(x:cU)(u:aZ)(k:cU)(v:aj)(b:Bool)(W W':ar)(h:W'.seen p x u k b=W.seen p x u k b) :
  Twin x.block W W' (W.viewStore p x u k v b) (W'.viewStore p x u k v b):=by
 unfold World.viewStore;rw[h];generalize W.seen p x u k b=s
 by_cases ht:tight p p.depth u=true
 ·simp only[ht,CL,bw,if_false];cases s with
  |error e=>exact⟨.error e,rfl,rfl,fun _ h=>by cases h⟩
  |ok s=>
   obtain⟨c,e,fz,first,like,cells⟩:=s;cases hv:v.bytes? with
   |none=>exact⟨.error _,rfl,rfl,fun _ h=>by cases h⟩
   |some bytes=>
    by_cases hl:some bytes.length≠like.bytes?.map (·.length)
    ·simp only[Bind.bind,Except.bind,eH,Except.pure];rw[if_pos hl,if_pos hl];exact⟨.error _,rfl,rfl,fun _ h=>by cases h⟩
    ·simp only[Bind.bind,Except.bind,eH,Except.pure];rw[if_neg hl,if_neg hl];generalize (List.foldlM _ c cells:Except String (Array aj))=r;cases r with
     |error e=>exact⟨.error e,rfl,rfl,fun _ h=>by cases h⟩
     |ok c'=>exact⟨.ok (.cells c' e fz,_),rfl,rfl,fun _ h=>by cases h;rfl⟩
 ·simp only[ht];exact⟨.error _,rfl,rfl,fun _ h=>by cases h⟩
theorem FV[uq]{lw w:ar}(V:jk lw w)(p:aI)(a:cU)(v:aj)(b:Bool) :
  (∀e,lw.farStore p a v b=.error e→w.farStore p a v b=.error e)∧(∀ep l,lw.farStore p a v b=.ok (ep,l)→∃w',w.farStore p a v b=.ok (w',l)∧jk ep w'):=by
 unfold World.farStore World.noCell;rcases V.at_ a.block with h|⟨h1,o,h2,h3⟩
 ·rw[h];split
  ·rename_i at_ u _;obtain⟨r,hr1,hr2,hr3⟩:=Dd p at_ u a v b lw w (Gj V ..);rw[hr1,hr2];cases r with
   |error e=>exact⟨fun _ h=>h,fun _ _ h=>by cases h⟩
   |ok y=>exact⟨fun _ h=>by(cases h),fun ep l hl=>by cases hl;exact⟨_,rfl,yu V _ _ (hr3 _ rfl)⟩⟩
  ·exact⟨fun e he=>he,fun ep l hl=>by cases hl⟩
 ·obtain⟨h4,h5,h6,_⟩:=jN h3;rw[h1,h2];refine⟨fun e he=>?_,fun ep l hl=>by cases hl⟩;simp only at he;cases o<;>first|exact he|(exact absurd rfl (h5 _ _))|(exact absurd rfl (h6 _ _))
theorem K9{w:ar}{p:aI}{a:cU}{what:String}:w.noCell a what≠.blocked∧w.noCell a what≠.waiting:=by
 unfold World.noCell;split<;>first|exact D7|exact Iz
theorem Lb{w:ar}{p:aI}{a:cU}{b:Bool}{e:Halt}(h:w.farLoad p a b=.error e):e≠.blocked∧e≠.waiting:=by
 unfold World.farLoad at h;split at h
 ·split at h
  ·cases h
  ·cases h;exact Iz
 ·cases h;exact K9 (p:=p)
theorem Jd{w:ar}{p:aI}{a:cU}{v:aj}{b:Bool}{e:Halt}(h:w.farStore p a v b=.error e):e≠.blocked∧e≠.waiting:=by
 unfold World.farStore at h;split at h
 ·split at h
  ·cases h
  ·cases h;exact Iz
 ·cases h;exact K9 (p:=p)
theorem vU[uq]{s:ic α}(hs:Calm P Q s){lw w:ar}(cN:dB lw)(V:jk lw w):Xl P s lw∨∃ep w' k r new,Pn P Q s lw w ep w' k r new:=by
 induction s generalizing lw w with
 |pure a=>exact .inr ⟨lw,w,0,.ok a,#[],rfl,rfl,ax _,cN,by simp,V,hs,fun es=>by simp only[dU];rfl,fun τ d _ es=>by simp only[dU];rfl⟩
 |load m a k ih=>
  cases hc:lw.cell? a with
  |some v=>
   have hw:w.cell? a=some v:=(vD V a).trans hc;have hl:∀es,(Sem.load m a k).runT P lw es=(k v).runT P lw (es++#[⟨.cell a,false,m == .atomic⟩]):=fun es=>by rw[dD,hc];simp
   rcases ih v (hs v) cN V with h|⟨ep,w',n,r,new,h⟩
   ·exact .inl (h.cons _ hl)
   ·exact .inr ⟨_,_,_,_,_,h.cons _ rfl rfl (ax _) (tF (.inl ⟨a,rfl,Pe hc⟩)) hl fun τ d es=>by rw[dD,oJ,hw];simp⟩
  |none=>
   have hw:w.cell? a=none:=(vD V a).trans hc;have hf:=PA V P a (m == .atomic);cases hx:lw.farLoad P a (m == .atomic) with
   |ok x=>
    obtain⟨v,l⟩:=x;rw[hx] at hf;have hl:∀es,(Sem.load m a k).runT P lw es=(k v).runT P lw (es++l.toArray.map (⟨.cell ·,false,m == .atomic⟩)):=fun es=>by rw[dD,hc];simp only[hx]
    rcases ih v (hs v) cN V with h|⟨ep,w',n,r,new,h⟩
    ·exact .inl (h.cons _ hl)
    ·exact .inr ⟨_,_,_,_,_,h.cons _ rfl rfl (ax _) (G5 (La hx)) hl fun τ d es=>by rw[dD,oJ,hw];simp only[vn,hf]⟩
   |error e=>
    rw[hx] at hf;exact .inr ⟨_,_,_,_,_,Pn.halted cN V (Lb hx) (fun es=>by rw[dD,hc];simp only[hx]) fun τ d es=>by rw[dD,oJ,hw];simp only[vn,hf]⟩
 |store m a v k ih=>
  by_cases h1:∃x,v=.agg x
  ·obtain⟨x,rfl⟩:=h1;exact .inr ⟨_,_,_,_,_,Pn.halted cN V D7 (fun es=>by rw[dD]) fun τ d es=>by rw[dD]⟩
  by_cases h2:∃x,v=.tuple x
  ·obtain⟨x,rfl⟩:=h2;exact .inr ⟨_,_,_,_,_,Pn.halted cN V D7 (fun es=>by rw[dD]) fun τ d es=>by rw[dD]⟩
  have h1':∀x,v≠.agg x:=fun x e=>h1 ⟨x,e⟩;have h2':∀x,v≠.tuple x:=fun x e=>h2 ⟨x,e⟩;cases hc:lw.cell? a with
  |some v0=>
   have hw:w.cell? a=some v0:=(vD V a).trans hc
   by_cases hz:lw.frozen? a=true
   ·have hz':w.frozen? a=true:=(uL V a).trans hz
    exact .inr ⟨_,_,_,_,_,Pn.halted (h:=.unsupported (.unsafePointer "a write to bytes that a string shares")) cN V Iz (fun es=>by rw[kV _ _ _ _ h1' h2',hc];simp only[hz,if_true]) fun τ d es=>by
     rw[kV _ _ _ _ h1' h2',oJ,hw];simp only[xM,hz',if_true]⟩
   ·have hz1:lw.frozen? a=false:=by simpa using hz
    have hz':w.frozen? a=false:=(uL V a).trans hz1
    have hl:∀es,(Sem.store m a v k).runT P lw es=k.runT P (lw.setCell a v) (es++#[⟨.cell a,true,m == .atomic⟩]):=fun es=>by
     rw[kV _ _ _ _ h1' h2',hc];simp[hz1]
    have hsz:(lw.setCell a v).heap.size=lw.heap.size:=by unfold j3;simp
    rcases ih hs (Et cN a v) (Ht V a v) with h|⟨ep,w',n,r,new,h⟩
    ·exact .inl (h.cons _ hl)
    ·refine .inr ⟨_,_,_,_,_,h.cons _ rfl rfl (by omega) (tF (.inl ⟨a,rfl,by rw[hsz];exact Pe hc⟩)) hl fun τ d es=>?_⟩;rw[kV _ _ _ _ h1' h2',oJ,hw];simp only[xM,hz',bw,if_false,←Array.push_eq_append];rfl
  |none=>
   have hw:w.cell? a=none:=(vD V a).trans hc;obtain⟨hf1,hf2⟩:=FV V P a v (m == .atomic);cases hx:lw.farStore P a v (m == .atomic) with
   |ok x=>
    obtain⟨mZ,l⟩:=x;obtain⟨w₁,Tf,V₁⟩:=hf2 _ _ hx;obtain⟨g1,g2,g3,g4,g5⟩:=Jc hx
    have hl:∀es,(Sem.store m a v k).runT P lw es=k.runT P mZ (es++l.toArray.map (⟨.cell ·,true,m == .atomic⟩)):=fun es=>by
     rw[kV _ _ _ _ h1' h2',hc];simp only[hx]
    rcases ih hs (g5 cN) V₁ with h|⟨ep,w',n,r,new,h⟩
    ·exact .inl (h.cons _ hl)
    ·exact .inr ⟨_,_,_,_,_,h.cons _ g3 g4 (by omega) (G5 (fun x hx=>by rw[g2];exact g1 x hx)) hl fun τ d es=>by
      rw[kV _ _ _ _ h1' h2',oJ,hw];simp only[zq,Tf]
      rfl⟩
   |error e=>
    have Tf:=hf1 _ hx
    exact .inr ⟨_,_,_,_,_,Pn.halted cN V (Jd hx) (fun es=>by rw[kV _ _ _ _ h1' h2',hc];simp only[hx]) fun τ d es=>by
     rw[kV _ _ _ _ h1' h2',oJ,hw];simp only[zq,Tf]
     rfl⟩
 |new o k ih=>
  have hl:∀es,(Sem.new o k).runT P lw es=(k lw.heap.size).runT P { lw with heap:=lw.heap.push o } (es++#[]):=fun es=>by rw[dD];simp
  rcases ih lw.heap.size (hs.2 _) (Ni cN hs.1) (RP V o) with h|⟨ep,w',n,r,new,h⟩
  ·exact .inl (h.cons _ hl)
  ·exact .inr ⟨_,_,_,_,_,h.cons _ rfl rfl (by simp) (by simp) hl fun τ d es=>by rw[dD];simp only[oz,←V.size,dU];rfl⟩
 |shape r k ih=>
  have hl:∀es,(Sem.shape r k).runT P lw es=(k (lw.shape? r)).runT P lw (es++#[]):=fun es=>by rw[dD];simp
  rcases ih (lw.shape? r) (hs _) cN V with h|⟨ep,w',n,r',new,h⟩
  ·exact .inl (h.cons _ hl)
  ·exact .inr ⟨_,_,_,_,_,h.cons _ rfl rfl (ax _) (by simp) hl fun τ d es=>by rw[dD];simp only[PN,Mr V,dU]⟩
 |freeze a n k ih=>
  have hl:∀es,(Sem.freeze a n k).runT P lw es=k.runT P (lw.freeze a n) (es++#[]):=fun es=>by rw[dD];simp
  have hz:(lw.freeze a n).heap.size=lw.heap.size∧(lw.freeze a n).tape=lw.tape∧(lw.freeze a n).drawn=lw.drawn:=by unfold World.freeze;split<;>simp
  rcases ih hs (FP cN a n) (JS V a n) with h|⟨ep,w',n',r',new,h⟩
  ·exact .inl (h.cons _ hl)
  ·refine .inr ⟨_,_,_,_,_,h.cons _ hz.2.1 hz.2.2 (by omega) (by simp) hl fun τ d es=>?_⟩;rw[dD];simp only[dU];unfold World.freeze;split<;>rfl
 |frozen a k ih=>
  have hl:∀es,(Sem.frozen a k).runT P lw es=(k (lw.frozen? a)).runT P lw (es++#[]):=fun es=>by rw[dD];simp
  rcases ih (lw.frozen? a) (hs _) cN V with h|⟨ep,w',n,r',new,h⟩
  ·exact .inl (h.cons _ hl)
  ·exact .inr ⟨_,_,_,_,_,h.cons _ rfl rfl (ax _) (by simp) hl fun τ d es=>by rw[dD];simp only[xM,uL V,dU]⟩
 |getObj r k ih=>
  cases hc:lw.heap[r]? with
  |none=>exact .inl ⟨_,lw,fun es=>⟨_,by rw[dD];simp only[hc];rfl⟩⟩
  |some o=>
   by_cases hcell:∃c t f,o=.cells c t f
   ·obtain⟨c,t,f,rfl⟩:=hcell;exact .inl ⟨_,lw,fun es=>⟨_,by rw[dD];simp only[hc];rfl⟩⟩
   have FM:∀c t f,o≠.cells c t f:=fun c t f e=>hcell ⟨c,t,f,e⟩
   have hrun:∀(x:ar) (o':Obj),x.heap[r]?=some o'→(∀c t f,o'≠.cells c t f)→∀es,(Sem.getObj r k).runT P x es=(k o').runT P x (es++#[⟨.obj r,false,o'.isChan⟩]):=fun x o' hx hn es=>by
    rw[dD,hx];cases o'<;>first|exact absurd rfl (hn _ _ _)|(simp only[←Array.push_eq_append])
   have hev:A6 lw.heap.size (⟨.obj r,false,o.isChan⟩:fQ):=.inr (.inl ⟨r,rfl,eE hc⟩);have hl:=hrun lw o hc FM;rcases V.at_ r with hv|⟨h1,o',h2,h3⟩
   ·have hw:w.heap[r]?=some o:=hv.symm.trans hc
    have ac2:Calm P Q (k o)∨Fi (k o):=by
     rcases cN r o hc with ho|rfl
     ·exact .inl (hs.1 o ho)
     ·exact hs.2.symm.imp (·.1) id
    rcases ac2 with hk|⟨why,hk⟩
    ·rcases ih o hk cN V with h|⟨ep,w',n,r',new,h⟩
     ·exact .inl (h.cons _ hl)
     ·exact .inr ⟨_,_,_,_,_,h.cons _ rfl rfl (ax _) (tF hev) hl fun τ d es=>hrun (dx w τ d) o hw FM es⟩
    ·exact .inl ⟨why,lw,fun es=>⟨_,by rw[hl,hk];rfl⟩⟩
   ·obtain rfl:o=.coro none:=Option.some.inj (hc.symm.trans h1);rcases hs.2 with⟨why,hk⟩|⟨hk,hk2⟩
    ·exact .inl ⟨why,lw,fun es=>⟨_,by rw[hl,hk];rfl⟩⟩
    ·rcases ih (.coro none) hk cN V with h|⟨ep,w',n,r',new,h⟩
     ·exact .inl (h.cons _ hl)
     ·refine .inr ⟨_,_,_,_,_,h.cons _ rfl rfl (ax _) (tF hev) hl fun τ d es=>?_⟩;rw[hrun (dx w τ d) o' h2 (jN h3).1 es,hk2 _ h3,(jN h3).2.2.2];rfl
 |setObj r o k ih=>
  cases hc:lw.heap[r]? with
  |none=>exact .inl ⟨_,lw,fun es=>⟨_,by rw[dD];simp only[hc];rfl⟩⟩
  |some o0=>
   by_cases hcell:∃c t f,o0=.cells c t f
   ·obtain⟨c,t,f,rfl⟩:=hcell;exact .inl ⟨_,lw,fun es=>⟨_,by rw[dD];simp only[hc];rfl⟩⟩
   have FM:∀c t f,o0≠.cells c t f:=fun c t f e=>hcell ⟨c,t,f,e⟩
   have hrun:∀(x:ar) (o':Obj),x.heap[r]?=some o'→(∀c t f,o'≠.cells c t f)→∀es,(Sem.setObj r o k).runT P x es=k.runT P { x with heap:=x.heap.setIfInBounds r o } (es++#[⟨.obj r,true,o.isChan⟩]):=fun x o' hx hn es=>by
    rw[dD,hx];cases o'<;>first|exact absurd rfl (hn _ _ _)|(simp only[←Array.push_eq_append])
   have hw:∃o',w.heap[r]?=some o'∧∀c t f,o'≠.cells c t f:=by
    rcases V.at_ r with hv|⟨h1,o',h2,h3⟩
    ·exact⟨o0,hv.symm.trans hc,FM⟩
    ·exact⟨o',h2,(jN h3).1⟩
   obtain⟨o',hw,hn'⟩:=hw;have hl:=hrun lw o0 hc FM;rcases ih hs.2 (xJ cN hs.1) (yu V r o hs.1) with h|⟨ep,w',n,r',new,h⟩
   ·exact .inl (h.cons _ hl)
   ·exact .inr ⟨_,_,_,_,_,h.cons _ rfl rfl (by simp) (tF (.inr (.inl ⟨r,rfl,by simpa using eE hc⟩))) hl fun τ d es=>hrun (dx w τ d) o' hw hn' es⟩
 |choose q k ih=>
  by_cases hq:q.forced=true
  ·have hl:∀es,(Sem.choose q k).runT P lw es=(k 0).runT P lw (es++#[]):=fun es=>by rw[dD];simp[hq]
   rcases ih 0 (hs 0) cN V with h|⟨ep,w',n,r,new,h⟩
   ·exact .inl (h.cons _ hl)
   ·exact .inr ⟨_,_,_,_,_,h.cons _ rfl rfl (ax _) (by simp) hl fun τ d es=>by rw[dD];simp[hq]⟩
  ·have hl:∀es,(Sem.choose q k).runT P lw es=(k (q.cut (lw.tape lw.drawn q))).runT P { lw with drawn:=lw.drawn+1 } es:=fun es=>by rw[dD];simp[hq]
   have V':jk { lw with drawn:=lw.drawn+1 } w:=⟨V.size,V.os,V.out,V.at_,V.old,V.kept⟩
   rcases ih (q.cut (lw.tape lw.drawn q)) (hs _) (lw:={ lw with drawn:=lw.drawn+1 }) cN V' with⟨why,ep,h⟩|⟨ep,w',n,r,new,h⟩
   ·exact .inl ⟨why,ep,fun es=>by rw[hl];exact h es⟩
   ·refine .inr ⟨ep,w',n+1,r,new,h.tape,by rw[h.drawn];simp only[];omega,h.grows,h.ok,h.evs,h.sU,h.res,fun es=>by rw[hl,h.lone],fun τ d ha es=>?_⟩;have h0:lw.tape lw.drawn=τ d:=ha 0 (by omega);have:=h.many τ (d+1) (NV ha) es;rw[dD];simp only[hq,bw,if_false,yQ,pS,←h0];rw[show d+(n+1)=d+1+n by omega];exact this
 |sys c k ih=>
  obtain⟨x,hx1,hx2⟩:=JV hs.1 lw;have hl:∀es,(Sem.sys c k).runT P lw es=(k x).runT P lw (es++#[⟨.output,true,false⟩]):=fun es=>by rw[dD,hx2];simp
  have hm:∀τ d es,(Sem.sys c k).runT P (dx w τ d) es=(k x).runT P (dx w τ d) (es++#[⟨.output,true,false⟩]):=fun τ d es=>by
   obtain⟨y,hy1,hy2⟩:=JV hs.1 (dx w τ d)
   have:y=x:=by
    simp only[YH,←V.os] at hy1;rw[hx1] at hy1;cases hy1;rfl
   subst this;rw[dD,hy2];simp
  rcases ih x (hs.2 x) cN V with h|⟨ep,w',n,r,new,h⟩
  ·exact .inl (h.cons _ hl)
  ·exact .inr ⟨_,_,_,_,_,h.cons _ rfl rfl (ax _) (tF (.inr (.inr (.inl rfl)))) hl hm⟩
 |program k ih=>
  have hl:∀es,(Sem.program k).runT P lw es=(k P).runT P lw (es++#[]):=fun es=>by rw[dD];simp
  rcases ih P hs cN V with h|⟨ep,w',n,r,new,h⟩
  ·exact .inl (h.cons _ hl)
  ·exact .inr ⟨_,_,_,_,_,h.cons _ rfl rfl (ax _) (by simp) hl fun τ d es=>by rw[dD];simp⟩
 |mark m k ih=>
  have hl:∀(x:ar) es,(Sem.mark m k).runT P x es=k.runT P x (es++#[⟨.mark m,false,true⟩]):=fun x es=>by rw[dD];simp
  rcases ih hs.2 cN V with h|⟨ep,w',n,r,new,h⟩
  ·exact .inl (h.cons _ (hl lw))
  ·refine .inr ⟨_,_,_,_,_,h.cons _ rfl rfl (ax _) (tF ?_) (hl lw) fun τ d es=>hl _ es⟩;rcases hs.1 with rfl|⟨f,rfl⟩
   ·exact .inr (.inr (.inr (.inl rfl)))
   ·exact .inr (.inr (.inr (.inr ⟨f,rfl⟩)))
 |halt h=>exact .inr ⟨_,_,_,_,_,Pn.halted cN V hs (fun es=>by rw[dD]) fun τ d es=>by rw[dD]⟩
end
def iF:Item→Bool
 |.code c=>dP c
 |.inLoop c|.inScope c=>dP c
 |.inRegion ops _=>ops.all Aj
 |.inBlock _|.inRangeFunc _|.endRangeFunc _|.beginRound=>true
 |.call ..|.extern ..=>false
structure dC(fr:bL):Prop where
 todo:fr.todo.all iF=true
 defers:fr.defers.all pg=true
structure zY(g:aB):Prop where
 frame:dC g.frame
 callers:∀c∈g.callers,dC c
 status:g.status=.running∨g.status=.finished
structure Quiet(P:aI):Prop extends Uv P where
 ahead:P.follows .staticDataAhead=true
 steps:∀g,P.stepOf g=none
 enters:∀todo,NoEnter P todo
structure Base[uq](lw ep w':ar)(k:Nat)(es:Array fQ):Prop where
 tape:ep.tape=lw.tape
 drawn:ep.drawn=lw.drawn+k
 grows:lw.heap.size≤ep.heap.size
 ok:dB ep
 evs:∀e∈es,A6 ep.heap.size e
 sU:jk ep w'
def Hn[uq](P:aI)(lw:ar)(s:GStep)(f:(Nat→dE→Nat)→Nat→GStep):Prop:=
 match s with
 |.ended ..=>True
 |.spawn ..=>True
 |.go g' ep es=>g'.dyingOn P∨(zY g'∧g'.dying=none∧∃w' k,Base lw ep w' k es∧∀τ d,Agree k lw.tape lw.drawn τ d→f τ d=.go g' (dx w' τ (d+k)) es)
 |.comm g' cs b sh ep es=>zY g'∧(g'.dying=none∧g'.status=.running)∧∃w' k,Base lw ep w' k es∧∀τ d,Agree k lw.tape lw.drawn τ d→f τ d=.comm g' cs b sh (dx w' τ (d+k)) es
 |_=>False
section frames
variable{fr:bL}
theorem dC.finish(h:dC fr)(v:aj):dC (fr.finish v):=by
 obtain⟨ht,hd⟩:=h;unfold Frame.finish;split
 ·rename_i e;rw[e] at ht;simp only[dN,aD] at ht;refine⟨?_,hd⟩;simp only[dN,aD];exact ht
 ·rename_i e;rw[e] at ht;simp only[dN,aD] at ht;refine⟨?_,hd⟩;simp only[dN,aD];exact ht
 ·rename_i e;rw[e] at ht;simp only[dN,aD] at ht;exact⟨ht.2,hd⟩
 ·rename_i e;rw[e] at ht;simp only[dN,aD] at ht;exact absurd ht.1 (by simp[iF])
 ·rename_i e;rw[e] at ht;simp only[dN,aD] at ht;exact absurd ht.1 (by simp[iF])
 ·exact⟨ht,hd⟩
theorem dC.raise(h:dC fr)(c:List PanicEntry):dC (fr.raise c):=by
 unfold Frame.raise;split<;>exact⟨h.todo,h.defers⟩
theorem dC.mode(h:dC fr)(m:FrameMode):dC { fr with mode:=m }:=⟨h.todo,h.defers⟩
theorem n9{P:aI}(T:Quiet P)(f:dR)(args:Array aj)(kind:CallKind):dC (eh P f args kind):=by
 refine⟨?_,rfl⟩;unfold eh;simp only[dN,List.all_nil,Bool.and_true,iF];cases hf:P.funcs[f]? with
 |none=>rfl
 |some fn=>
  cases hb:fn.body with
  |none=>simp[hb,dP]
  |some c=>simpa [hb] using T.body f fn c hf hb
theorem wU{l:Nat}{f:dR}{tmps:Array aj}{a b:Code}(ha:dP a=true)(hb:dP b=true)(kind:CallKind):dC (Frame.round l f tmps a b kind):=by
 refine⟨?_,rfl⟩;simp[Frame.round,iF,ha,hb]
theorem AK{id:Nat}:∀ {k k':List Item},k.all iF=true→exitTo id k=some k'→k'.all iF=true
 |[],k',_,h=>by cases h
 |x::k,k',hk,h=>by
  simp only[dN,aD] at hk;unfold exitTo at h;split at h
  ·rename_i e;cases e;split at h
   ·cases h;exact hk.2
   ·exact AK hk.2 h
  ·rename_i e;cases e;exact AK hk.2 h
  ·rename_i e;cases e
theorem tE:∀ {c:Code} {l:Nat} {c':Code},dP c=true→zZ c l=some c'→dP c'=true
 |.seq a b,l,c',hc,h=>by
  simp only[dP,aD] at hc;unfold zZ at h;split at h
  ·rename_i rest hr;cases h;simp only[dP,aD];exact⟨tE hc.1 hr,hc.2⟩
  ·exact tE hc.2 h
 |.label l',l,c',hc,h=>by
  unfold zZ at h;split at h
  ·cases h;rfl
  ·cases h
 |.region ..,l,c',hc,h=>by unfold zZ at h;cases h
 |.cond ..,l,c',hc,h=>by unfold zZ at h;cases h
 |.block ..,l,c',hc,h=>by unfold zZ at h;cases h
 |.loop ..,l,c',hc,h=>by unfold zZ at h;cases h
 |.rangeFunc ..,l,c',hc,h=>by unfold zZ at h;cases h
 |.scope ..,l,c',hc,h=>by unfold zZ at h;cases h
 |.exit ..,l,c',hc,h=>by unfold zZ at h;cases h
 |.goto ..,l,c',hc,h=>by unfold zZ at h;cases h
 |.ret,l,c',hc,h=>by unfold zZ at h;cases h
 |.skip,l,c',hc,h=>by unfold zZ at h;cases h
 |.refuse ..,l,c',hc,h=>by unfold zZ at h;cases h
theorem AB{l:Nat}:∀ {k k':List Item},k.all iF=true→gotoIn l k=some k'→k'.all iF=true
 |[],k',_,h=>by cases h
 |x::k,k',hk,h=>by
  have hk0:=hk;simp only[dN,aD] at hk;unfold gotoIn at h;split at h
  ·rename_i body k0 e;cases e;split at h
   ·rename_i rest hr;cases h;simp only[dN,aD];exact⟨tE hk.1 hr,hk⟩
   ·exact AB hk.2 h
  ·rename_i e;cases e;exact AB hk.2 h
  ·rename_i e;cases e
theorem lU:∀ {cs:List bL} {fr:bL} {v:aj} {cs':List bL},(∀c∈cs,dC c)→tryRecover fr cs=some (v,cs')→∀c∈cs',dC c
 |[],fr,v,cs',h,e=>by
  unfold tryRecover at e;split at e
  ·rename_i h1;cases h1
  ·rename_i h1;cases h1
  ·cases e
 |c0::rest,fr,v,cs',h,e=>by
  unfold tryRecover at e;split at e
  ·rename_i h1;cases h1;split at e
   ·cases e;intro c hc;rcases bR.1 hc with rfl|hc
    ·exact(h c0 (dw ..)).mode _
    ·exact h c (bz _ hc)
   ·cases e
  ·rename_i h1;cases h1;obtain⟨⟨v',r'⟩,hr,he⟩:=eD.1 e;cases he;intro c hc;rcases bR.1 hc with rfl|hc
   ·exact h c (dw ..)
   ·exact lU (fun c hc=>h c (bz _ hc)) hr c hc
  ·cases e
theorem kD:∀ {cs:List bL} {l:Nat} {v:aj} {cs':List bL},(∀c∈cs,dC c)→tryRecoverLoop l cs=some (v,cs')→∀c∈cs',dC c
 |[],l,v,cs',h,e=>by cases e
 |c0::rest,l,v,cs',h,e=>by
  unfold tryRecoverLoop at e;obtain⟨⟨v',r'⟩,hr,he⟩:=eD.1 e;cases he;have zk:∀c∈rest,dC c:=fun c hc=>h c (bz _ hc);intro c hc;rcases bR.1 hc with rfl|hc
  ·exact h c (dw ..)
  ·split at hr
   ·exact kD zk hr c hc
   ·split at hr
    ·exact lU zk hr c hc
    ·exact kD zk hr c hc
   ·exact kD zk hr c hc
end frames
theorem mem_seen{p:aI}{fn:dR}{es:Array fQ}{e:fQ}(h:e∈seen p fn es):e∈es:=by
 unfold seen at h;revert h
 have:∀(l:List fQ) (acc:Bool × Array fQ),e∈(l.foldl (fun(x:Bool × Array fQ) (e:fQ)=>(match x with
   |(q,kept)=>match e.loc with
    |.mark (.extern f)=>((p.funcs[f]?).any (·.norace),kept)
    |_=>(q,if q && !e.sync then kept else kept.push e):Bool × Array fQ)) acc).2→e∈acc.2∨e∈l:=by
  intro l
  induction l with
  |nil=>intro acc h;exact .inl h
  |cons x l ih=>
   intro acc h;rw[List.foldl_cons] at h;rcases ih _ h with h|h
   ·obtain⟨q,kept⟩:=acc;dsimp only at h;split at h
    ·exact .inl h
    ·dsimp only at h;split at h
     ·exact .inl h
     ·rcases Array.mem_push.1 h with h|rfl
      ·exact .inl h
      ·exact .inr (dw ..)
   ·exact .inr (bz _ h)
 intro h;dsimp only at h;rw[←Array.foldl_toList] at h;rcases this _ _ h with h|h
 ·simp at h
 ·simpa using h
section
variable{P:aI}{lw w:ar}
theorem Hj[uq](cN:dB lw)(V:jk lw w):Base lw lw w 0 #[]:=⟨rfl,rfl,ax _,cN,by simp,V⟩
theorem RY[uq](cN:dB lw)(V:jk lw w){g:aB}(hg:zY g)(hd:g.dying=none){f}(hf:∀τ d,f τ d=.go g (dx w τ d) #[]):Hn P lw (.go g lw #[]) f:=
 .inr ⟨hg,hd,w,0,Hj cN V,fun τ d _=>hf τ d⟩
theorem Pn.base[uq]{α:Type}{Q:α→Prop}{s:ic α}{ep w':ar}{k:Nat}{r:Except Halt α}{new:Array fQ}(h:Pn P Q s lw w ep w' k r new){es:Array fQ}(hes:∀e∈es,e∈new):Base lw ep w' k es:=
 ⟨h.tape,h.drawn,h.grows,h.ok,fun e he=>h.evs e (hes e he),h.sU⟩
def kK(P:aI){α:Type}(K:Result α × Array fQ→GStep)(r:Except Halt α):Prop:=∀x new,(∃o y es',K (Al r x,new)=.ended o y es')∨(∃g y es',K (Al r x,new)=.go g y es'∧g.dyingOn P)∨(∃g c y es',K (Al r x,new)=.spawn g c y es')∨
   (∃g es',zY g∧g.dying=none∧(∀e∈es',e∈new)∧∀y,K (Al r y,new)=.go g y es')∨
   (∃g cs b sh es',zY g∧(g.dying=none∧g.status=.running)∧(∀e∈es',e∈new)∧∀y,K (Al r y,new)=.comm g cs b sh y es')
theorem kK.ended{α:Type}{K:Result α × Array fQ→GStep}{r:Except Halt α}(h:∀x new,∃o y es',K (Al r x,new)=.ended o y es'):kK P K r:=fun x new=>.inl (h x new)
theorem kK.EF{α:Type}{K:Result α × Array fQ→GStep}{r:Except Halt α}(h:∀x new,∃g y es',K (Al r x,new)=.go g y es'∧g.dyingOn P):kK P K r:=fun x new=>.inr (.inl (h x new))
theorem kK.go{α:Type}{K:Result α × Array fQ→GStep}{r:Except Halt α}{g:aB}(hg:zY g)(hd:g.dying=none)(es':Array fQ→Array fQ)(hes:∀new e,e∈es' new→e∈new)(h:∀y new,K (Al r y,new)=.go g y (es' new)):kK P K r:=
 fun x new=>.inr (.inr (.inr (.inl ⟨g,es' new,hg,hd,hes new,fun y=>h y new⟩)))
theorem yz[uq]{α:Type}{Q:α→Prop}{s:ic α}(hs:Calm P Q s)(cN:dB lw)(V:jk lw w)(F:ar→GStep)
  (h:∃K:Result α × Array fQ→GStep,(∀y,F y=K (s.runT P y #[]))∧(∀why x es,∃o es',K (.halt (.stuck why) x,es)=.ended o x es')∧∀r,OkR Q r→kK P K r) :
  Hn P lw (F lw) (fun τ d=>F (dx w τ d)):=by
 obtain⟨K,hrun,O3,hK⟩:=h;simp only[hrun];rcases vU hs cN V with⟨why,ep,h⟩|⟨ep,w',k,r,new,h⟩
 ·obtain⟨es,he⟩:=h #[];rw[he];obtain⟨o,es',h'⟩:=O3 why ep es;rw[h'];trivial
 ·have hl:=h.lone #[];rw[eO] at hl;rw[hl];have hm:∀τ d,Agree k lw.tape lw.drawn τ d→K (s.runT P (dx w τ d) #[])=K (Al r (dx w' τ (d+k)),new):=fun τ d ha=>by rw[h.many τ d ha #[],eO]
  rcases hK r h.res ep new with⟨o,y,es',e⟩|⟨g,y,es',e,hd⟩|⟨g,c,y,es',e⟩|⟨g,es',hg,hd,hes,e⟩|⟨g,cs,b,sh,es',hg,hd,hes,e⟩
  ·rw[e];trivial
  ·rw[e];exact .inl hd
  ·rw[e];trivial
  ·rw[e ep];exact .inr ⟨hg,hd,w',k,h.base hes,fun τ d ha=>(hm τ d ha).trans (e _)⟩
  ·rw[e ep];exact⟨hg,hd,w',k,h.base hes,fun τ d ha=>(hm τ d ha).trans (e _)⟩
theorem zv(fr:bL)(ahead:List ByteArray)(m:String)(whole:Bool)(w:ar):∃g y es',dieOf fr ahead m whole w=.go g y es'∧g.dyingOn P:=⟨_,_,_,rfl,.inl rfl,_,rfl,rfl,NoEnter.nil P⟩
theorem Cu(fr:bL)(m:String)(w:ar):∃g y es',endThrow fr m w=.go g y es'∧g.dyingOn P:=zv _ _ _ _ _
theorem ug(fr:bL)(cs:List bL)(d:Option Dying)(m:String)(w:ar) :
  (∃o y es',endFatal P fr cs d m w=.ended o y es')∨∃g y es',endFatal P fr cs d m w=.go g y es'∧g.dyingOn P:=by
 unfold endFatal
 extract_lets
 repeat' (first|(split)|exact .inl ⟨_,_,_,rfl⟩|exact .inr (zv _ _ _ _ _))
theorem Lh(T:Quiet P)(fr:bL)(cs:List bL)(d:Option Dying)(g:Nat)(w:ar):∃o es',early P fr cs d g w=.ended o w es':=by
 unfold early;simp only[T.ahead,T.steps,CL,bw,if_false];exact⟨_,_,rfl⟩
theorem eU{fr:bL}{cs:List bL}{d:Option Dying}{o}(h:dC fr)(hc:∀c∈cs,dC c):zY { frame:=fr,callers:=cs,status:=.running,dying:=d,offers:=o }:=⟨h,hc,.inl rfl⟩
theorem C6{fr:bL}{cs:List bL}(h:dC fr)(hc:∀c∈cs,dC c):∀c∈fr::cs,dC c:=fun c hx=>by
 rcases bR.1 hx with rfl|hx
 ·exact h
 ·exact hc c hx
theorem FH{c:Prop}[Decidable c]{es:Array fQ}{e:fQ}(h:e∈(if c then #[] else es)):e∈es:=by
 split at h
 ·simp at h
 ·exact h
theorem r7{es:Array fQ}{p:aI}{fn:dR}{c:Prop}[Decidable c]{e:fQ}(h:e∈seen p fn (if c then #[] else es)++#[]):e∈es:=by
 rw[dU] at h;exact FH (mem_seen h)
theorem mem_row{es:Array fQ}{p:aI}{fn:dR}{c:Prop}[Decidable c]:∀e,e∈seen p fn (if c then #[] else es)++#[]→e∈es:=fun e=>r7
theorem vX[uq](T:Quiet P){fr:bL}{cs:List bL}(hfr:dC fr)(hcs:∀c∈cs,dC c){s:ic Next}(hs:Calm P eG s)(cN:dB lw)(V:jk lw w) :
  Hn P lw (dZ P true fr cs none s lw) (fun τ d=>dZ P true fr cs none s (dx w τ d)):=by
 refine yz hs cN V (fun y=>dZ P true fr cs none s y) ⟨?K,fun y=>?_,?_,?_⟩
 rotate_left
 ·unfold dZ;simp only[if_true];generalize s.runT P y #[]=x;exact rfl
 ·intro why x es;exact⟨_,_,rfl⟩
 ·intro r hr;cases r with
  |ok n=>
   cases n with
   |value v=>exact kK.go (eU (hfr.finish v) hcs) rfl _ (fun _=>mem_row) fun y new=>rfl
   |skip=>exact kK.go (eU (hfr.finish undef) hcs) rfl _ (fun _=>mem_row) fun y new=>rfl
   |enter f args=>exact kK.go (eU (n9 T f args _) (C6 hfr hcs)) rfl _ (fun _=>mem_row) fun y new=>rfl
   |round l f tmps a b=>exact kK.go (eU (wU hr.1 hr.2 _) (C6 hfr hcs)) rfl _ (fun _=>mem_row) fun y new=>rfl
   |defer d=>exact kK.go (eU (dC.finish (fr:={ fr with defers:=d::fr.defers }) ⟨hfr.todo,by rw[dN,hfr.defers,Bool.and_true];exact hr⟩ undef) hcs) rfl _ (fun _=>mem_row) fun y new=>rfl
   |recover=>
    intro x new
    have key:∀X:Option (aj × List bL),(∀v cs',X=some (v,cs')→∀c∈cs',dC c)→∀es:Array fQ,(∀e∈es++#[],e∈new)→
      ∃g es',zY g∧g.dying=none∧(∀e∈es',e∈new)∧∀y,Bf es (match X with
       |some (v,callers)=>GStep.go { frame:=fr.finish v,callers,status:=.running,dying:=none } y
       |none=>GStep.go { frame:=fr.finish .nilIface,callers:=cs,status:=.running,dying:=none } y)=.go g y es':=by
     intro X hX es hes;cases X with
     |none=>exact⟨_,_,eU (hfr.finish .nilIface) hcs,rfl,hes,fun y=>rfl⟩
     |some z=>exact⟨_,_,eU (hfr.finish z.1) (hX z.1 z.2 rfl),rfl,hes,fun y=>rfl⟩
    refine .inr (.inr (.inr (.inl ?_)));cases hro:fr.roundOf with
    |none=>
     simp only[Al,hro];exact key (tryRecover fr cs) (fun v cs' e=>lU hcs e) _ fun e=>r7
    |some l=>
     by_cases hf:P.follows .rangeFuncRecover=true
     ·simp only[Al,hro,hf,if_true];exact key (tryRecover fr cs) (fun v cs' e=>lU hcs e) _ fun e=>r7
     ·simp only[Al,hro,hf,if_false];exact key (tryRecoverLoop l cs) (fun v cs' e=>kD hcs e) _ fun e=>r7
   |comm c b sh=>exact fun x new=>.inr (.inr (.inr (.inr ⟨_,_,_,_,_,eU hfr hcs,⟨rfl,rfl⟩,fun e=>r7,fun y=>rfl⟩)))
   |spawn d=>
    intro x new;dsimp only[Al];generalize (P.follows .goNilFatal&&_&&d.args.isEmpty&&fr.noResult P)=c;cases c with
    |true=>
     obtain⟨g,y,es',e,hd⟩:=Cu (P:=P) fr "go of nil func value" x;exact .inr (.inl ⟨g,y,_,by rw[if_pos rfl,e];rfl,hd⟩)
    |false=>exact .inr (.inr (.inl ⟨_,_,_,_,rfl⟩))
   |_=>exact hr.elim
  |error h=>
   cases h with
   |panic v=>exact kK.go (eU (hfr.raise _) hcs) rfl _ (fun _=>mem_row) fun y new=>rfl
   |goexit=>exact kK.go (eU (hfr.raise _) hcs) rfl _ (fun _=>mem_row) fun y new=>rfl
   |blocked=>exact absurd rfl hr.1
   |waiting=>exact absurd rfl hr.2
   |exit c=>exact kK.ended fun x new=>⟨_,_,_,rfl⟩
   |fatal m=>
    intro x new;dsimp only[Al];rcases ug (P:=P) fr cs none m x with⟨o,y,es',e⟩|⟨g,y,es',e,hd⟩
    ·rw[e];exact .inl ⟨_,_,_,rfl⟩
    ·rw[e];exact .inr (.inl ⟨_,_,_,rfl,hd⟩)
   |throw m=>exact kK.EF fun x new=>⟨_,_,_,rfl,.inl rfl,_,rfl,rfl,NoEnter.nil P⟩
   |unsupported u=>
    intro x new;dsimp only[Al];cases u with
    |initOrder g=>
     dsimp only;obtain⟨o,es',e⟩:=Lh T fr cs none g x;rw[e];exact .inl ⟨_,_,_,rfl⟩
    |_=>exact .inl ⟨_,_,_,rfl⟩
   |stuck s=>exact kK.ended fun x new=>⟨_,_,_,rfl⟩
end
section
variable{P:aI}{lw w:ar}
theorem wV(T:Quiet P){fr:bL}{cs:List bL}(hfr:dC fr)(hcs:∀c∈cs,dC c)(v:aj) :
  (∃g,zY g∧g.dying=none∧∀y,tT P true fr cs none v y=.go g y #[])∨(∀y,∃o,tT P true fr cs none v y=.ended o y #[]):=by
 cases cs with
 |cons c rest=>
  have hc:=hcs c (dw ..);have zk:∀c∈rest,dC c:=fun x hx=>hcs x (bz _ hx);cases hk:fr.kind with
  |normal=>exact .inl ⟨_,eU (hc.finish v) zk,rfl,fun y=>by simp only[tT,hk];rfl⟩
  |wrapped=>exact .inl ⟨_,eU (hc.finish v) zk,rfl,fun y=>by simp only[tT,hk];rfl⟩
  |early=>exact .inl ⟨_,eU hc zk,rfl,fun y=>by simp only[tT,hk];rfl⟩
  |_=>
   refine .inl ⟨_,eU ?_ zk,rfl,fun y=>by simp only[tT,hk];rfl⟩;split
   ·split<;>exact hc.mode _
   ·exact hc
 |nil=>
  have key:fr.kind≠.report→∀y,tT P true fr [] none v y=(match P.inits.idxOf? fr.fn with
    |some k=>.go { frame:=eh P (P.initFrom (k+1)) #[] .normal,callers:=[],status:=.running,dying:=none } y
    |none=>.ended (.done v) y):=fun hk y=>by
   unfold tT;cases qH:fr.kind<;>first|exact absurd qH hk|rfl
  by_cases hk:fr.kind=.report
  ·exact .inr fun y=>⟨.stuck "report: Error or String returned no string" "",by obtain⟨fn,tmps,todo,defers,mode,kind,roundOf⟩:=fr;simp only at hk;subst hk;cases v<;>rfl⟩
  ·cases hi:P.inits.idxOf? fr.fn with
   |some k=>exact .inl ⟨_,eU (cs:=[]) (n9 T _ _ _) (by simp),rfl,fun y=>by rw[key hk,hi]⟩
   |none=>exact .inr fun y=>⟨_,by rw[key hk,hi]⟩
theorem zu[uq](T:Quiet P){fr:bL}{cs:List bL}(hfr:dC fr)(hcs:∀c∈cs,dC c){s:ic aj}(hs:Calm P Any s)(cN:dB lw)(V:jk lw w)(F:ar→GStep)
  (h:∃K:Result aj × Array fQ→GStep,(∀y,F y=K (s.runT P y #[]))∧(∀v es,∃es',(∀e∈es'++#[],e∈es)∧∀x,K (.ok v x,es)=.after es' (tT P true fr cs none v x))∧(∀h x es,∃o es',K (.halt h x,es)=.ended o x es')) :
  Hn P lw (F lw) (fun τ d=>F (dx w τ d)):=by
 obtain⟨K,h1,h2,h3⟩:=h;refine yz hs cN V F ⟨K,h1,fun why x es=>h3 _ x es,fun r hr=>?_⟩;cases r with
 |error h=>exact kK.ended fun x new=>by obtain⟨o,es',e⟩:=h3 h x new;exact⟨_,_,_,e⟩
 |ok v=>
  intro x new;rcases wV T hfr hcs v with⟨g,hg,hgd,e⟩|e
  ·refine .inr (.inr (.inr (.inl ?_)));obtain⟨es',he,e2⟩:=h2 v new;exact⟨g,_,hg,hgd,he,fun y=>by rw[show Al (.ok v) y=.ok v y from rfl,e2,e];rfl⟩
  ·obtain⟨o,e⟩:=e x;obtain⟨es',he,e2⟩:=h2 v new;exact .inl ⟨o,x,_,by rw[show Al (.ok v) x=.ok v x from rfl,e2,e];rfl⟩
theorem fF{es:Array fQ}{p:aI}{fn:dR}:∀e,e∈seen p fn es++#[]→e∈es:=fun e h=>by
 rw[dU] at h;exact mem_seen h
theorem A2[uq](T:Quiet P){fr:bL}{cs:List bL}(hfr:dC fr)(hcs:∀c∈cs,dC c){d:Deferred}(hd:pg d=true)(cN:dB lw)(V:jk lw w) :
  Hn P lw (callDeferred P fr cs none d lw) (fun τ d'=>callDeferred P fr cs none d (dx w τ d')):=by
 by_cases hn:((d.target matches .nil)&&(fr.mode matches .panicking _))=true
 ·have:∀y,∃o,callDeferred P fr cs none d y=.ended o y #[]:=fun y=>⟨_,by unfold callDeferred;exact if_pos hn⟩
  obtain⟨o,e⟩:=this lw;rw[e];trivial
 refine yz (rf T.toUv d.target d.args hd) cN V (fun y=>callDeferred P fr cs none d y) ⟨?K,fun y=>?_,?_,?_⟩
 rotate_left
 ·unfold callDeferred;refine(if_neg hn).trans ?_;generalize (invoke d.target d.args).runT P y #[]=x;exact rfl
 ·intro why x es;exact⟨_,_,rfl⟩
 ·intro r hr;cases r with
  |ok n=>
   cases n with
   |enter f args=>exact kK.go (eU (n9 T f args _) (C6 hfr hcs)) rfl _ (fun _=>fF) fun y new=>rfl
   |round l f tmps a b=>exact kK.go (eU (wU hr.1 hr.2 _) (C6 hfr hcs)) rfl _ (fun _=>fF) fun y new=>rfl
   |recover=>
    intro x new;refine .inr (.inr (.inr (.inl ?_)));cases hm:fr.mode with
    |returning=>
     cases ht:tryRecover fr cs with
     |none=>exact⟨_,_,eU hfr hcs,rfl,fF,fun y=>by simp only[Al,hm,ht];rfl⟩
     |some z=>exact⟨_,_,eU hfr (lU (v:=z.1) (cs':=z.2) hcs ht),rfl,fF,fun y=>by simp only[Al,hm,ht];rfl⟩
    |_=>exact⟨_,_,eU hfr hcs,rfl,fF,fun y=>by simp only[Al,hm];rfl⟩
   |value v=>exact kK.go (eU hfr hcs) rfl _ (fun _=>fF) fun y new=>rfl
   |skip=>exact kK.go (eU hfr hcs) rfl _ (fun _=>fF) fun y new=>rfl
   |defer d=>exact kK.go (eU hfr hcs) rfl _ (fun _=>fF) fun y new=>rfl
   |comm c b sh=>exact kK.go (eU hfr hcs) rfl _ (fun _=>fF) fun y new=>rfl
   |spawn d=>exact kK.go (eU hfr hcs) rfl _ (fun _=>fF) fun y new=>rfl
   |_=>exact hr.elim
  |error h=>
   cases h with
   |panic v=>exact kK.go (eU (hfr.raise _) hcs) rfl _ (fun _=>fF) fun y new=>rfl
   |goexit=>exact kK.go (eU (hfr.raise _) hcs) rfl _ (fun _=>fF) fun y new=>rfl
   |blocked=>exact absurd rfl hr.1
   |waiting=>exact absurd rfl hr.2
   |exit c=>exact kK.ended fun x new=>⟨_,_,_,rfl⟩
   |fatal m=>
    intro x new;dsimp only[Al];rcases ug (P:=P) fr cs none m x with⟨o,y,es',e⟩|⟨g,y,es',e,hd⟩
    ·rw[e];exact .inl ⟨_,_,_,rfl⟩
    ·rw[e];exact .inr (.inl ⟨_,_,_,rfl,hd⟩)
   |throw m=>exact kK.EF fun x new=>⟨_,_,_,rfl,.inl rfl,_,rfl,rfl,NoEnter.nil P⟩
   |unsupported u=>exact kK.ended fun x new=>⟨_,_,_,rfl⟩
   |stuck s=>exact kK.ended fun x new=>⟨_,_,_,rfl⟩
theorem pN[uq]{g:aB}(cN:dB lw)(V:jk lw w)(hg:zY g)(hgd:g.dying=none)(F:ar→GStep)(h:∀y,F y=.go g y #[]):Hn P lw (F lw) (fun τ d=>F (dx w τ d)):=by
 rw[h lw];exact RY cN V hg hgd fun τ d=>h _
theorem lj[uq](F:ar→GStep)(h:∀y,∃o y' es,F y=.ended o y' es):Hn P lw (F lw) (fun τ d=>F (dx w τ d)):=by
 obtain⟨o,y',es,e⟩:=h lw;rw[e];trivial
theorem Fw[uq](F:ar→GStep)(h:(∃o y' es,F lw=.ended o y' es)∨∃g y es,F lw=.go g y es∧g.dyingOn P):Hn P lw (F lw) (fun τ d=>F (dx w τ d)):=by
 rcases h with⟨o,y',es,e⟩|⟨g,y,es,e,hd⟩
 ·rw[e];trivial
 ·rw[e];exact .inl hd
theorem Ms[uq](T:Quiet P){fr:bL}{cs:List bL}(hfr:dC fr)(hcs:∀c∈cs,dC c)(cN:dB lw)(V:jk lw w) :
  Hn P lw (lI P true fr cs none lw) (fun τ d=>lI P true fr cs none (dx w τ d)):=by
 obtain⟨ft,fd⟩:=hfr;obtain⟨fn,tmps,todo,defers,mode,kind,roundOf⟩:=fr;simp only at ft fd;cases defers with
 |cons d ds=>
  simp only[dN,aD] at fd;obtain⟨target,args⟩:=d;cases target with
  |collected block=>
   refine yz (P:=P) (zF block) cN V (fun y=>lI P true _ cs none y) ⟨?K,fun y=>?_,?_,?_⟩
   rotate_left
   ·unfold lI;dsimp only;generalize (Instr.takeDeferred block).runT P y #[]=x;exact rfl
   ·intro why x es;exact⟨_,_,rfl⟩
   ·intro r hr;cases r with
    |ok calls=>exact kK.go (eU ⟨ft,by show(calls++ds).all pg=true;rw[List.all_append,fd.2,Bool.and_true];exact hr⟩ hcs) rfl _ (fun _=>fF) fun y new=>rfl
    |error h=>exact kK.ended fun x new=>⟨_,_,_,rfl⟩
  |_=>exact A2 T (fr:=⟨fn,tmps,todo,ds,mode,kind,roundOf⟩) ⟨ft,fd.2⟩ hcs fd.1 cN V
 |nil=>
  cases mode with
  |run=>exact lj (fun y=>lI P true _ cs none y) fun y=>⟨_,_,_,rfl⟩
  |panicking chain=>
   by_cases hc:(Frame.catches P ⟨fn,tmps,todo,[],.panicking chain,kind,roundOf⟩)=true
   ·exact lj (fun y=>lI P true _ cs none y) fun y=>⟨_,_,_,by unfold lI;simp only[hc,if_true];rfl⟩
   ·cases cs with
    |cons c rest=>
     exact pN cN V (eU ((hcs c (dw ..)).raise chain) fun x hx=>hcs x (bz _ hx)) rfl (fun y=>lI P true _ _ none y) fun y=>by unfold lI;simp only[hc];rfl
    |nil=>
     by_cases hg:(chain.head?.any (·.goexit))=true
     ·exact pN (g:=⟨⟨fn,tmps,todo,[],.panicking chain,kind,roundOf⟩,[],.finished,none,none⟩) cN V ⟨⟨ft,rfl⟩,by simp,.inr rfl⟩ rfl (fun y=>lI P true _ _ none y) fun y=>by unfold lI;simp only[hc,hg,if_true];rfl
     ·refine Fw (fun y=>lI P true _ [] none y) ?_;unfold lI;simp only[hc,hg,if_false,bw];split
      ·exact .inr ⟨_,_,_,rfl,.inl rfl,_,rfl,rfl,T.enters _⟩
      ·exact .inl ⟨_,_,_,rfl⟩
      ·exact .inl ⟨_,_,_,rfl⟩
  |returning=>
   cases hf:P.funcs[fn]? with
   |none=>
    rcases wV T (fr:=⟨fn,tmps,todo,[],.returning,kind,roundOf⟩) ⟨ft,rfl⟩ hcs (tmps.getD 0 undef) with⟨g,hg,hgd,e⟩|e
    ·exact pN cN V hg hgd (fun y=>lI P true _ cs none y) fun y=>by unfold lI;simp only[hf];exact e y
    ·exact lj (fun y=>lI P true _ cs none y) fun y=>by
      obtain⟨o,e⟩:=e y;exact⟨o,y,#[],by unfold lI;simp only[hf];exact e⟩
   |some fn'=>
    refine zu T (fr:=⟨fn,tmps,todo,[],.returning,kind,roundOf⟩) ⟨ft,rfl⟩ hcs (zG fn' tmps) cN V (fun y=>lI P true _ cs none y) ⟨?K2,fun y=>?_,?_,?_⟩
    rotate_left
    ·unfold lI;simp only[hf];generalize (results fn' tmps).runT P y #[]=x;exact rfl
    ·intro v es;exact⟨_,fF,fun x=>rfl⟩
    ·intro h x es;cases h<;>exact⟨_,_,rfl⟩
end
section
variable{P:aI}{lw w:ar}
theorem OC{x:Item}{l:List Item}(h:(x::l).all iF=true):iF x=true∧l.all iF=true:=by
 simpa only[dN,aD] using h
theorem PZ[uq](T:Quiet P){fr:bL}{cs:List bL}(hfr:dC fr)(hcs:∀c∈cs,dC c)(cN:dB lw)(V:jk lw w){l:Nat}(jump:Option Code)(hj:jump.all dP=true)(F:ar→GStep)
  (h:∃K:Result aj × Array fQ→GStep,(∀y,F y=K ((Instr.endRound l jump).runT P y #[]))∧(∀v es,∃es',(∀e∈es'++#[],e∈es)∧∀x,K (.ok v x,es)=.after es' (tT P true fr cs none v x))∧(∀h x es,∃o es',K (.halt h x,es)=.ended o x es')) :
  Hn P lw (F lw) (fun τ d=>F (dx w τ d)):=zu T hfr hcs (F3 l jump hj) cN V F h
theorem Sy[uq](T:Quiet P){fr:bL}{cs:List bL}(hfr:dC fr)(hcs:∀c∈cs,dC c)(cN:dB lw)(V:jk lw w) :
  Hn P lw (eM P true fr cs none lw) (fun τ d=>eM P true fr cs none (dx w τ d)):=by
 cases ho:fr.oper? with
 |none=>exact lj (fun y=>eM P true fr cs none y) fun y=>⟨_,_,_,by unfold eM;rw[ho]⟩
 |some o=>
  have hoo:Aj o=true:=by
   unfold Frame.oper? at ho;split at ho
   ·rename_i ops i rest k e;have:=hfr.todo;rw[e] at this;have h1:=(OC this).1;simp only[iF,Array.all_eq_true] at h1;obtain⟨hi,rfl⟩:=ak.1 ho;exact h1 i hi
   ·cases ho
  have gen:∀y,(∀c l,fr.roundOf=some l→o.op≠.defer c)→eM P true fr cs none y=dZ P true fr cs none (execOp fr.eval o) y:=fun y hn=>by
   unfold eM;rw[ho];cases hr:fr.roundOf with
   |none=>rfl
   |some l=>
    dsimp only;split
    ·rename_i e1 e2;exact absurd e2 (hn _ _ hr)
    ·rfl
  by_cases hd:∃c l,fr.roundOf=some l∧o.op=.defer c
  ·obtain⟨c,l,hr,hop⟩:=hd
   have e:∀y,eM P true fr cs none y=dZ P true fr cs none (do Instr.deferInRound l (←resolve fr.eval c o.type);pure .skip) y:=fun y=>by
    unfold eM;rw[ho];simp only[hr,hop]
   simp only[e];refine vX T hfr hcs ?_ cN V
   have hc:Iw c=true:=by
    unfold Aj at hoo;rw[hop] at hoo;exact hoo
   exact eC (lz _ _ _ hc) fun d hd=>aP (zH l d hd) fun _=>trivial
  ·have hn:∀c l,fr.roundOf=some l→o.op≠.defer c:=fun c l h1 h2=>hd ⟨c,l,h1,h2⟩;simp only[fun y=>gen y hn];exact vX T hfr hcs (LD T.toUv _ _ hoo) cN V
theorem PK[uq]{s:GStep}{f}(h:Hn P lw s f){es:Array fQ}(he:∀e∈es,A6 lw.heap.size e):Hn P lw (Bf es s) (fun τ d=>Bf es (f τ d)):=by
 cases s with
 |ended=>trivial
 |spawn=>trivial
 |go g' ep es'=>
  rcases h with h|⟨hg,hgd,w',k,hb,hf⟩
  ·exact .inl h
  ·refine .inr ⟨hg,hgd,w',k,⟨hb.tape,hb.drawn,hb.grows,hb.ok,fun e hx=>?_,hb.sU⟩,fun τ d ha=>by dsimp only;rw[hf τ d ha];rfl⟩;rcases Gf.1 hx with hx|hx
   ·exact(he e hx).mono hb.grows
   ·exact hb.evs e hx
 |comm g' cs b sh ep es'=>
  obtain⟨hg,hd,w',k,hb,hf⟩:=h;refine⟨hg,hd,w',k,⟨hb.tape,hb.drawn,hb.grows,hb.ok,fun e hx=>?_,hb.sU⟩,fun τ d ha=>by dsimp only;rw[hf τ d ha];rfl⟩;rcases Gf.1 hx with hx|hx
  ·exact(he e hx).mono hb.grows
  ·exact hb.evs e hx
 |_=>exact h.elim
theorem vY{a b:Nat}{τ τ':Nat→dE→Nat}{d d':Nat}(h:Agree (a+b) τ d τ' d'):Agree a τ d τ' d'∧Agree b τ (d+a) τ' (d'+a):=
 ⟨h.le (by omega),fun i hi=>by have:=h (a+i) (by omega);rwa [←np,←np] at this⟩
theorem PJ[uq]{ep:ar}{s:GStep}{f f'}{n:Nat}(h:Hn P ep s f')(ht:ep.tape=lw.tape)(hd:ep.drawn=lw.drawn+n)(hs:lw.heap.size≤ep.heap.size)
  (hf:∀τ d,Agree n lw.tape lw.drawn τ d→f τ d=f' τ (d+n)):Hn P lw s f:=by
 cases s with
 |ended=>trivial
 |spawn=>trivial
 |go g' YS es'=>
  rcases h with h|⟨hg,hgd,w',k,hb,hf'⟩
  ·exact .inl h
  ·refine .inr ⟨hg,hgd,w',n+k,⟨hb.tape.trans ht,by rw[hb.drawn,hd];omega,aN hs hb.grows,hb.ok,hb.evs,hb.sU⟩,fun τ d ha=>?_⟩;obtain⟨h1,h2⟩:=vY ha;rw[hf τ d h1,hf' τ (d+n) (by rw[ht,hd];exact h2),np]
 |comm g' cs b sh YS es'=>
  obtain⟨hg,Mg,w',k,hb,hf'⟩:=h;refine⟨hg,Mg,w',n+k,⟨hb.tape.trans ht,by rw[hb.drawn,hd];omega,aN hs hb.grows,hb.ok,hb.evs,hb.sU⟩,fun τ d ha=>?_⟩;obtain⟨h1,h2⟩:=vY ha;rw[hf τ d h1,hf' τ (d+n) (by rw[ht,hd];exact h2),np]
 |_=>exact h.elim
theorem TU[uq](T:Quiet P){fr:bL}{cs:List bL}(hfr:dC fr)(hcs:∀c∈cs,dC c)(cN:dB lw)(V:jk lw w) :
  Hn P lw (bX P true true fr cs none lw) (fun τ d=>bX P true true fr cs none (dx w τ d)):=by
 have hfr0:=hfr;obtain⟨ft,fd⟩:=hfr;obtain⟨fn,tmps,todo,defers,mode,kind,roundOf⟩:=fr;simp only at ft fd
 have leave:∀(jump:Option Code),jump.all dP=true→∀F:ar→GStep,(∀y,F y=(match (generalizing:=false) roundOf with
   |none=>if jump matches none|some .ret then .go { frame:={ fn:=fn,tmps:=tmps,todo:=todo,defers:=defers,mode:=.returning,kind:=kind,roundOf:=roundOf },callers:=cs,status:=.running,dying:=none } y
     else .ended (.stuck "exit, goto: no such block or label" (Frame.pos P ⟨fn,tmps,todo,defers,mode,kind,roundOf⟩)) y
   |some l=>
    let (r,es):=(Instr.endRound l jump).runT P y #[]
    Bf (seen P fn es) <| match r with
    |.ok v w=>tT P true ⟨fn,tmps,todo,defers,mode,kind,roundOf⟩ cs none v w
    |.halt _ w=>.ended (.stuck "range over a function: no such loop" (Frame.pos P ⟨fn,tmps,todo,defers,mode,kind,roundOf⟩)) w))→
   Hn P lw (F lw) (fun τ d=>F (dx w τ d)):=by
  intro jump hj F hF;cases roundOf with
  |none=>
   by_cases hm:(match (generalizing:=false) jump with|none|some .ret=>true|_=>false)=true
   ·exact pN cN V (eU (fr:={ fn:=fn,tmps:=tmps,todo:=todo,defers:=defers,mode:=.returning,kind:=kind,roundOf:=none }) ⟨ft,fd⟩ hcs) rfl F fun y=>(hF y).trans (if_pos hm)
   ·exact lj F fun y=>⟨_,_,_,(hF y).trans (if_neg hm)⟩
  |some l=>
   refine PZ T hfr0 hcs cN V (l:=l) jump hj F ⟨?K,fun y=>?_,?_,?_⟩
   rotate_left
   ·rw[hF y];dsimp only;generalize (Instr.endRound l jump).runT P y #[]=x;exact rfl
   ·intro v es;exact⟨_,fF,fun x=>rfl⟩
   ·intro h x es;exact⟨_,_,rfl⟩
 have to:∀(t:List Item),t.all iF=true→∀F:ar→GStep,(∀y,F y=.go { frame:={ fn:=fn,tmps:=tmps,todo:=t,defers:=defers,mode:=mode,kind:=kind,roundOf:=roundOf },callers:=cs,status:=.running,dying:=none } y #[])→
   Hn P lw (F lw) (fun τ d=>F (dx w τ d)):=fun t ht F hF=>pN cN V (eU ⟨ht,fd⟩ hcs) rfl F hF
 have ended:∀F:ar→GStep,(∀y,∃o y' es,F y=.ended o y' es)→Hn P lw (F lw) (fun τ d=>F (dx w τ d)):=fun F hF=>lj F hF;cases todo with
 |nil=>exact leave none rfl (fun y=>bX P true true _ cs none y) fun y=>rfl
 |cons x k=>
  obtain⟨hx,hk⟩:=OC ft;have cons:∀(y:Item) (l:List Item),iF y=true→l.all iF=true→(y::l).all iF=true:=fun y l h1 h2=>by rw[dN,h1,h2];rfl
  cases x with
  |inBlock id=>exact to k hk (fun y=>bX P true true _ cs none y) fun y=>rfl
  |inScope body=>exact to k hk (fun y=>bX P true true _ cs none y) fun y=>rfl
  |inLoop body=>exact to _ (cons (.code body) _ hx (cons (.inLoop body) _ hx hk)) (fun y=>bX P true true _ cs none y) fun y=>rfl
  |inRegion ops l=>
   cases l with
   |nil=>exact to k hk (fun y=>bX P true true _ cs none y) fun y=>rfl
   |cons i rest=>
    by_cases hw:(((ops[i]?).map (Region.wanted · (yielded ops tmps))).getD false)=true
    ·have e:∀y,bX P true true ⟨fn,tmps,.inRegion ops (i::rest)::k,defers,mode,kind,roundOf⟩ cs none y=eM P true ⟨fn,tmps,.inRegion ops (i::rest)::k,defers,mode,kind,roundOf⟩ cs none y:=fun y=>if_pos hw;simp only[e];exact Sy T hfr0 hcs cN V
    ·exact pN cN V (eU (hfr0.finish undef) hcs) rfl (fun y=>bX P true true _ cs none y) fun y=>if_neg hw
  |inRangeFunc l=>exact ended (fun y=>bX P true true _ cs none y) fun y=>⟨_,_,_,rfl⟩
  |endRangeFunc l=>
   refine yz (P:=P) (Jk l) cN V (fun y=>bX P true true _ cs none y) ⟨?K1,fun y=>?_,?_,?_⟩
   rotate_left
   ·unfold bX;dsimp only;generalize (Instr.endLoop l).runT P y #[]=x;exact rfl
   ·intro why x es;exact⟨_,_,rfl⟩
   ·intro r hr;cases r with
    |ok jump=>
     have ht:((jump.map Item.code).toList++k).all iF=true:=by
      rw[List.all_append,hk,Bool.and_true];cases jump with
      |none=>rfl
      |some c=>
       have:dP c=true:=hr;simp[iF,this]
     exact kK.go (eU (fr:={ fn:=fn,tmps:=tmps,todo:=(jump.map Item.code).toList++k,defers:=defers,mode:=mode,kind:=kind,roundOf:=roundOf }) ⟨ht,fd⟩ hcs) rfl _ (fun _=>fF) fun y new=>rfl
    |error h=>
     cases h with
     |panic v=>exact kK.go (eU (hfr0.raise _) hcs) rfl _ (fun _=>fF) fun y new=>rfl
     |_=>exact kK.ended fun x new=>⟨_,_,_,rfl⟩
  |beginRound=>
   refine vX T hfr0 hcs ?_ cN V;cases roundOf with
   |none=>exact aP (bD (Q:=Any)) fun _=>trivial
   |some l=>exact aP (Cz l) fun _=>trivial
  |call d a b c=>exact absurd hx (by simp[iF])
  |extern r a=>exact absurd hx (by simp[iF])
  |code c=>
   have hc:dP c=true:=hx;cases c with
   |ret=>exact leave (some .ret) rfl (fun y=>bX P true true _ cs none y) fun y=>rfl
   |skip=>exact to k hk (fun y=>bX P true true _ cs none y) fun y=>rfl
   |label l=>exact to k hk (fun y=>bX P true true _ cs none y) fun y=>rfl
   |seq a b=>
    simp only[dP,aD] at hc;exact to _ (cons (.code a) _ hc.1 (cons (.code b) _ hc.2 hk)) (fun y=>bX P true true _ cs none y) fun y=>rfl
   |cond c t e=>
    simp only[dP,aD] at hc
    by_cases hb:∃b,Frame.eval ⟨fn,tmps,.code (.cond c t e)::k,defers,mode,kind,roundOf⟩ c=.bool b
    ·obtain⟨b,hb⟩:=hb
     have e:∀y,bX P true true ⟨fn,tmps,.code (.cond c t e)::k,defers,mode,kind,roundOf⟩ cs none y=.go { frame:={ fn:=fn,tmps:=tmps,todo:=.code (if b then t else e)::k,defers:=defers,mode:=mode,kind:=kind,roundOf:=roundOf },callers:=cs,status:=.running,dying:=none } y #[]:=fun y=>by
      unfold bX;simp only[hb]
     exact to _ (cons _ _ (by cases b;exact hc.2;exact hc.1) hk) (fun y=>bX P true true _ cs none y) e
    ·refine ended (fun y=>bX P true true _ cs none y) fun y=>⟨.stuck "cond: bool expected" (Frame.pos P ⟨fn,tmps,.code (.cond c t e)::k,defers,mode,kind,roundOf⟩),y,#[],?_⟩
     unfold bX;dsimp only;split
     ·rename_i b hb';exact absurd ⟨b,hb'⟩ hb
     ·exact rfl
   |block id body=>exact to _ (cons (.code body) _ hc (cons (.inBlock id) _ rfl hk)) (fun y=>bX P true true _ cs none y) fun y=>rfl
   |loop body=>exact to _ (cons (.code body) _ hc (cons (.inLoop body) _ hc hk)) (fun y=>bX P true true _ cs none y) fun y=>rfl
   |scope body=>exact to _ (cons (.code body) _ hc (cons (.inScope body) _ hc hk)) (fun y=>bX P true true _ cs none y) fun y=>rfl
   |exit id=>
    cases he:exitTo id k with
    |none=>exact leave (some (.exit id)) rfl (fun y=>bX P true true _ cs none y) fun y=>by unfold bX;simp only[he];rfl
    |some k'=>exact to k' (AK hk he) (fun y=>bX P true true _ cs none y) fun y=>by unfold bX;simp only[he];rfl
   |goto l=>
    cases he:gotoIn l k with
    |none=>exact leave (some (.goto l)) rfl (fun y=>bX P true true _ cs none y) fun y=>by unfold bX;simp only[he];rfl
    |some k'=>exact to k' (AB hk he) (fun y=>bX P true true _ cs none y) fun y=>by unfold bX;simp only[he];rfl
   |refuse why=>exact ended (fun y=>bX P true true _ cs none y) fun y=>⟨_,_,_,rfl⟩
   |region id ops draw=>
    cases draw with
    |false=>exact to _ (cons (.inRegion ops _) _ hc hk) (fun y=>bX P true true _ cs none y) fun y=>rfl
    |true=>
     have e:∀y:ar,bX P true true ⟨fn,tmps,.code (.region id ops true)::k,defers,mode,kind,roundOf⟩ cs none y =
       .go { frame:={ fn:=fn,tmps:=tmps,todo:=.inRegion ops (Region.schedule (P.follows .mixedOrders) ops (y.tape y.drawn (.order fn id)))::k,defers:=defers,mode:=mode,kind:=kind,roundOf:=roundOf },callers:=cs,status:=.running,dying:=none } { y with drawn:=y.drawn+1 } #[]:=fun y=>rfl
     rw[e lw];refine .inr ⟨eU (fr:={ fn:=fn,tmps:=tmps,todo:=.inRegion ops _::k,defers:=defers,mode:=mode,kind:=kind,roundOf:=roundOf }) ⟨cons (.inRegion ops _) _ hc hk,fd⟩ hcs,rfl,w,1,⟨rfl,rfl,ax _,cN,by simp,⟨V.size,V.os,V.out,V.at_,V.old,V.kept⟩⟩,fun τ d ha=>?_⟩;dsimp only;rw[e];have h0:lw.tape lw.drawn=τ d:=ha 0 (by omega);rw[h0];rfl
   |rangeFunc f params assign body=>
    simp only[dP,aD] at hc
    have GZ:∀x:bL,Calm P eG (do let d ←resolve x.eval { callee:=.value f,args:=#[.const (.func (.yield (0:Nat)) #[] #[])],argTypes:=#[] } 0;invoke d.target d.args):=fun x=>
     eC (lz _ _ _ rfl) fun d hd=>rf T.toUv _ _ hd
    rcases vU (EW (P:=P) fn tmps params assign body roundOf hc.1 hc.2) cN V with⟨why,ep,h⟩|⟨ep,w',n,r,new,h⟩
    ·obtain⟨es,he⟩:=h #[]
     have:∃o es',bX P true true ⟨fn,tmps,.code (.rangeFunc f params assign body)::k,defers,mode,kind,roundOf⟩ cs none lw=.ended o ep es':=by
      unfold bX;simp only[he];exact⟨_,_,rfl⟩
     obtain⟨o,es',e⟩:=this;rw[e];trivial
    ·cases r with
     |error hh=>
      have:∃o es',bX P true true ⟨fn,tmps,.code (.rangeFunc f params assign body)::k,defers,mode,kind,roundOf⟩ cs none lw=.ended o ep es':=by
       unfold bX;simp only[h.lone #[]];exact⟨_,_,rfl⟩
      obtain⟨o,es',e⟩:=this;rw[e];trivial
     |ok z=>
      obtain⟨l,mark⟩:=z;have hm:mark.all pg=true:=h.res;have agc:dC ⟨fn,tmps,.inRangeFunc l::k,mark++defers,mode,kind,roundOf⟩:=⟨cons (.inRangeFunc l) _ rfl hk,by show(mark++defers).all pg=true;rw[List.all_append,hm,fd];rfl⟩
      have key:∀(y y':ar) (new:Array fQ),(Instr.enterLoop fn tmps params assign body roundOf).runT P y #[]=(.ok (l,mark) y',new)→bX P true true ⟨fn,tmps,.code (.rangeFunc f params assign body)::k,defers,mode,kind,roundOf⟩ cs none y =
        Bf (seen P fn new) (dZ P true ⟨fn,tmps,.inRangeFunc l::k,mark++defers,mode,kind,roundOf⟩ cs none (do let d ←resolve (Frame.eval ⟨fn,tmps,.inRangeFunc l::k,mark++defers,mode,kind,roundOf⟩) { callee:=.value f,args:=#[.const (.func (.yield l) #[] #[])],argTypes:=#[] } 0;invoke d.target d.args) y'):=fun y y' new e=>by
       rw[bX];dsimp only;rw[e]
      have hl:=h.lone #[];rw[eO] at hl;rw[key lw ep new hl];have inner:=vX (lw:=ep) (w:=w') T agc hcs (s:=(do let d ←resolve (Frame.eval ⟨fn,tmps,.inRangeFunc l::k,mark++defers,mode,kind,roundOf⟩) { callee:=.value f,args:=#[.const (.func (.yield l) #[] #[])],argTypes:=#[] } 0;invoke d.target d.args)) (eC (lz _ _ _ rfl) fun d hd=>rf T.toUv _ _ hd) h.ok h.sU;refine PJ (PK inner (es:=seen P fn new) fun e he=>h.evs e (mem_seen he)) h.tape h.drawn h.grows fun τ d ha=>?_;have hm2:=h.many τ d ha #[];rw[eO] at hm2;exact key _ _ _ hm2
theorem Gp[uq](T:Quiet P){g:aB}(hg:zY g)(hd:g.dying=none)(cN:dB lw)(V:jk lw w) :
  Hn P lw (stepG P true g lw) (fun τ d=>stepG P true g (dx w τ d)):=by
 obtain⟨fr,cs,st,dy,off⟩:=g;simp only at hd;subst hd;obtain⟨hf,hc,_⟩:=hg;cases hm:fr.mode with
 |run=>
  have e:∀y,stepG P true ⟨fr,cs,st,none,off⟩ y=bX P true true fr cs none y:=fun y=>by unfold stepG;simp only[hm]
  simp only[e];exact TU T hf hc cN V
 |_=>
  have e:∀y,stepG P true ⟨fr,cs,st,none,off⟩ y=lI P true fr cs none y:=fun y=>by unfold stepG;simp only[hm]
  simp only[e];exact Ms T hf hc cN V
end
end Go.Lag
