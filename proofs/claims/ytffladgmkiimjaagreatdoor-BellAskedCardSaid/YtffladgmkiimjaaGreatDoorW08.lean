/- The tape: what a program of the model's own monad yields hangs on the  .. -/
import GoSem.Step
import Derived.Calls
import Derived.Laws.Sem
import Derived.DyingOn
set_option linter.all false
set_option maxHeartbeats 100000000
set_option maxRecDepth 1000000
open Array renaming mem_append → F2,getElem?_setIfInBounds_ne → aA,getElem?_eq_some_iff → ak,getElem?_setIfInBounds → bw,append_empty → dS,empty_append → eL,getElem?_eq_none → fg,getElem?_push → kN,getElem?_modify → oY
open Bool renaming not_true → Cw,and_eq_true → aC,false_eq_true → bu
open Go renaming Goroutine → aB,Program → aI,TypeId → aX,Value → aj,World → ar,Frame → bL,Addr → cU,Question → dA,FuncId → dR,runtimePanic → ej,Event → fP,callFunc → fh,Sem → gZ,zeroValue → iD,underlying → iG,unwind → lD,typeInfo → lF,unsupported → qC,doReturn → tL,findLabel → zO
open Go.Builtin renaming firstCells → eJ,zeroCells → fE,append_ → j6,mayShare → pD
open Go.Frame renaming enter → dZ
open Go.GStep renaming after → A4
open Go.Instr renaming loadAt → A3,findKey → Cv,indexAt → jf,findAsking → jg,index → mC,checkKey → nu,mapUpdate → zQ
open Go.Sem renaming runT → dz
open Go.World renaming setCell → j4
open Go.stepG renaming exec → bW,apply → dX,oper → eI
open List renaming mem_cons_of_mem → bI,mem_cons → bR,mem_cons_self → cR,all_cons → dO
open Nat renaming le_trans → aN,le_refl → ax,add_assoc → ng
open Option renaming map_some → dH,map_eq_some_iff → eu
open Pure renaming pure → eE
namespace Go.Lag
def dr(w:ar)(τ:Nat→dA→Nat)(d:Nat):World:={ w with tape:=τ,drawn:=d }
def Agree(n:Nat)(τ:Nat→dA→Nat)(d:Nat)(τ':Nat→dA→Nat)(d':Nat):Prop:=∀i,i<n→τ (d+i)=τ' (d'+i)
theorem Agree.le{n m:Nat}{τ τ':Nat→dA→Nat}{d d':Nat}(h:Agree n τ d τ' d')(hm:m≤n):Agree m τ d τ' d':=fun i hi=>h i (Nat.lt_of_lt_of_le hi hm)
@[simp] theorem ot (w:ar) (τ:Nat→dA→Nat) (d:Nat):(dr w τ d).heap=w.heap:=rfl
@[simp] theorem Yi (w:ar) (τ:Nat→dA→Nat) (d:Nat):(dr w τ d).os=w.os:=rfl
@[simp] theorem yJ (w:ar) (τ:Nat→dA→Nat) (d:Nat):(dr w τ d).tape=τ:=rfl
@[simp] theorem pH (w:ar) (τ:Nat→dA→Nat) (d:Nat):(dr w τ d).drawn=d:=rfl
def aa3{α:Type}(r:Result α)(τ:Nat→dA→Nat)(d:Nat):Result α:=
 match r with
 |.ok a w=>.ok a (dr w τ d)
 |.halt h w=>.halt h (dr w τ d)
theorem oD(w:ar)(τ:Nat→dA→Nat)(d:Nat)(a:cU):(dr w τ d).cell? a=w.cell? a:=rfl
theorem xC(w:ar)(τ:Nat→dA→Nat)(d:Nat)(a:cU):(dr w τ d).frozen? a=w.frozen? a:=rfl
theorem Pr(w:ar)(τ:Nat→dA→Nat)(d:Nat)(r:Nat):(dr w τ d).shape? r=w.shape? r:=rfl
theorem uY(p:aI)(w:ar)(τ:Nat→dA→Nat)(d:Nat)(a:cU)(b:Bool):(dr w τ d).farLoad p a b=w.farLoad p a b:=rfl
theorem RJ(p:aI)(w:ar)(τ:Nat→dA→Nat)(d:Nat)(x:cU)(u:aX)(k:cU)(b:Bool):(dr w τ d).seen p x u k b=w.seen p x u k b:=rfl
theorem Ff(p:aI)(w:ar)(τ:Nat→dA→Nat)(d:Nat)(x:cU)(u:aX)(k:cU)(v:aj)(b:Bool) :
  (dr w τ d).viewStore p x u k v b=(w.viewStore p x u k v b).map fun(w',l)=>(dr w' τ d,l):=by
 unfold World.viewStore;simp only[RJ];generalize w.seen p x u k b=s;cases s with
 |error e=>by_cases h:tight p p.depth u<;>simp only[h]<;>rfl
 |ok s=>
  obtain⟨c,e,fz,first,like,cells⟩:=s
  by_cases h:tight p p.depth u
  ·simp only[h,Bind.bind,Except.bind,eE,Except.pure];simp only[Cw,bu,if_false];cases v.bytes? with
   |none=>rfl
   |some bytes=>
    simp only[];split
    ·rfl
    ·generalize (List.foldlM _ c cells:Except String (Array aj))=r;cases r<;>rfl
  ·simp only[h];rfl
theorem zf(p:aI)(w:ar)(τ:Nat→dA→Nat)(d:Nat)(a:cU)(v:aj)(b:Bool) :
  (dr w τ d).farStore p a v b=(w.farStore p a v b).map fun(w',l)=>(dr w' τ d,l):=by
 unfold World.farStore;simp only[ot];split
 ·rw[Ff];generalize w.viewStore p _ _ a v b=r;cases r<;>rfl
 ·rfl
def Ab:Builtin→Bool
 |.append|.cap|.clear|.close|.copy|.delete|.len|.max|.min|.recover|.panic=>true
 |_=>false
def H4(c:Call):Bool:=
 match c.callee with
 |.builtin b=>Ab b
 |_=>true
def Aa(o:Oper):Bool:=
 match o.op with
 |.call c|.go c|.defer c=>H4 c
 |_=>true
def dP:Code→Bool
 |.region _ ops _=>ops.all Aa
 |.seq a b=>dP a&&dP b
 |.cond _ a b=>dP a&&dP b
 |.block _ c=>dP c
 |.loop c=>dP c
 |.rangeFunc _ _ a b=>dP a&&dP b
 |.scope c=>dP c
 |_=>true
def J3:Target→Bool
 |.builtin b ..=>Ab b
 |.coroexit _=>false
 |_=>true
def o6(d:Deferred):Bool:=J3 d.target
def xj(l:Loop):Bool:=(l.pending.all dP)&&dP l.assign&&dP l.body
def fL:Obj→Bool
 |.loop l=>xj l
 |.deferred (some ds)=>ds.all o6
 |.coro _=>false
 |.finalizers ..=>false
 |_=>true
def Jl(c:Sys):Prop:=∀os,∃r,Kernel.perform c os=.done (r,os)∧r≠.wouldBlock
def E4{α:Type}(s:gZ α):Prop:=∃why,s=.halt (.stuck why)
def Calm(P:aI){α:Type}(Q:α→Prop):gZ α→Prop
 |.pure a=>Q a
 |.load _ _ k=>∀v,Calm P Q (k v)
 |.store _ _ _ k=>Calm P Q k
 |.new o k=>fL o=true∧∀r,Calm P Q (k r)
 |.shape _ k=>∀s,Calm P Q (k s)
 |.freeze _ _ k=>Calm P Q k
 |.frozen _ k=>∀b,Calm P Q (k b)
 |.getObj _ k=>(∀o,fL o=true→Calm P Q (k o))∧(E4 (k (.coro none))∨(Calm P Q (k (.coro none))∧∀o,fL o=false→k o=k (.coro none)))
 |.setObj _ o k=>fL o=true∧Calm P Q k
 |.choose _ k=>∀n,Calm P Q (k n)
 |.sys c k=>Jl c∧∀r,Calm P Q (k r)
 |.program k=>Calm P Q (k P)
 |.mark m k=>(m=.noRoom∨∃f,m=.extern f)∧Calm P Q k
 |.halt h=>h≠.blocked∧h≠.waiting
def Gone(P:aI){α:Type}(Q:α→Prop)(f:Obj→gZ α):Prop:=E4 (f (.coro none))∨(Calm P Q (f (.coro none))∧∀o,fL o=false→f o=f (.coro none))
theorem mG{P:aI}{α:Type}{Q:α→Prop}{f:Obj→gZ α}{w:String}(h:f (.coro none)=.halt (.stuck w)):Gone P Q f:=.inl ⟨w,h⟩
theorem qi{P:aI}{α:Type}{Q:α→Prop}{f:Obj→gZ α}(h:Calm P Q (f (.coro none)))(h2:∀o,fL o=false→f o=f (.coro none)):Gone P Q f:=.inr ⟨h,h2⟩
abbrev Any{α:Type}:α→Prop:=fun _=>True
section
variable{P:aI}{α β:Type}{Q:β→Prop}
theorem ep{R:α→Prop}{s:gZ α}{f:α→gZ β}(hs:Calm P R s)(hf:∀a,R a→Calm P Q (f a)):Calm P Q (s >>= f):=by
 show Calm P Q (s.bind f)
 induction s with
 |pure a=>exact hf a hs
 |load m a k ih=>exact fun v=>ih v (hs v)
 |store m a v k ih=>exact ih hs
 |new o k ih=>exact⟨hs.1,fun r=>ih r (hs.2 r)⟩
 |shape r k ih=>exact fun s=>ih s (hs s)
 |freeze a n k ih=>exact ih hs
 |frozen a k ih=>exact fun b=>ih b (hs b)
 |getObj r k ih=>
  refine⟨fun o ho=>ih o (hs.1 o ho),hs.2.imp (fun⟨why,hw⟩=>⟨why,by show(k (.coro none)).bind f=_;rw[hw];rfl⟩) fun⟨h1,h2⟩=>⟨ih _ h1,fun o ho=>?_⟩⟩;show(k o).bind f=(k (.coro none)).bind f;rw[h2 o ho]
 |setObj r o k ih=>exact⟨hs.1,ih hs.2⟩
 |choose q k ih=>exact fun n=>ih n (hs n)
 |sys c k ih=>exact⟨hs.1,fun r=>ih r (hs.2 r)⟩
 |program k ih=>exact ih P hs
 |mark m k ih=>exact⟨hs.1,ih hs.2⟩
 |halt h=>exact hs
theorem aP{s:gZ α}{f:α→gZ β}(hs:Calm P Any s)(hf:∀a,Calm P Q (f a)):Calm P Q (s >>= f):=ep hs fun a _=>hf a
theorem Calm.imp{R:β→Prop}{s:gZ β}(hs:Calm P R s)(h:∀a,R a→Q a):Calm P Q s:=by
 have:=ep (f:=Sem.pure) (Q:=Q) hs (fun a ha=>h a ha);have e:s >>= Sem.pure=s:=bind_pure s;rwa [e] at this
theorem cC{a:α}:Calm P Any (eE a:gZ α):=trivial
theorem tD{a:α}:Calm P Any (Sem.pure a:gZ α):=trivial
theorem ED{a:β}(h:Q a):Calm P Q (eE a:gZ β):=h
theorem vg{s:gZ α}{f:α→β}(hs:Calm P Any s):Calm P Any (Functor.map f s):=ep (Q:=Any) hs fun _ _=>trivial
theorem bA{w:String}:Calm P Q (stuck w:gZ β):=⟨by simp,by simp⟩
theorem dJ{u:Unsupported}:Calm P Q (qC u:gZ β):=⟨by simp,by simp⟩
theorem kn{v:aj}:Calm P Q (goPanic v:gZ β):=⟨by simp,by simp⟩
theorem tF{w:String}:Calm P Q (fatal w:gZ β):=⟨by simp,by simp⟩
theorem ql{w:String}:Calm P Q (throw w:gZ β):=⟨by simp,by simp⟩
theorem sx{a:cU}{m:Mode}:Calm P Any (load a m):=fun _=>trivial
theorem qm{a:cU}{v:aj}{m:Mode}:Calm P Any (store a v m):=trivial
theorem kX{o:Obj}(h:fL o=true):Calm P Any (newObj o):=⟨h,fun _=>trivial⟩
theorem tv{r:Nat}:Calm P Any (shape r):=fun _=>trivial
theorem qZ{a:cU}{n:Nat}:Calm P Any (freeze a n):=trivial
theorem qY{a:cU}:Calm P Any (frozen a):=fun _=>trivial
theorem j0{r:Nat}{f:Obj→gZ β}(h:∀o,fL o=true→Calm P Q (f o))(hk:Gone P Q f):Calm P Q (getObj r >>= f):=⟨h,hk⟩
theorem iC{r:Nat}{o:Obj}(h:fL o=true):Calm P Any (setObj r o):=⟨h,trivial⟩
theorem kY{q:dA}:Calm P Any (choose q):=fun _=>trivial
theorem jm:Calm P Any program:=trivial
theorem m7{n:Nat}:Calm P Any (askRoom n):=by
 unfold askRoom;split
 ·exact⟨.inl rfl,trivial⟩
 ·trivial
theorem oG:Calm P Any (mark .noRoom):=⟨.inl rfl,trivial⟩
theorem EF{f:α→gZ β}(hf:∀a,Calm P Any (f a))(l:List α):Calm P Any (l.mapM f):=by
 rw[←List.mapM'_eq_mapM]
 induction l with
 |nil=>exact cC
 |cons a l ih=>exact aP (hf a) fun _=>aP ih fun _=>cC
theorem pN{f:α→gZ β}(hf:∀a,Calm P Any (f a))(l:Array α):Calm P Any (l.mapM f):=by
 rw[Array.mapM_eq_mapM_toList];exact vg (EF hf _)
theorem BU{γ:Type}{f:β→γ→gZ β}(hf:∀a b,Calm P Any (f a b))(b:β)(l:List γ):Calm P Any (l.foldlM f b):=by
 induction l generalizing b with
 |nil=>exact cC
 |cons a l ih=>exact aP (hf b a) fun _=>ih _
theorem jh{γ:Type}{f:γ→β→gZ (ForInStep β)}(hf:∀a b,Calm P Any (f a b))(l:List γ)(b:β):Calm P Any (forIn l b f):=by
 induction l generalizing b with
 |nil=>exact cC
 |cons a l ih=>
  rw[List.forIn_cons];refine aP (hf a b) fun r=>?_;cases r with
  |done b=>exact cC
  |yield b=>exact ih b
theorem lz{γ:Type}{f:γ→β→gZ (ForInStep β)}(hf:∀a b,Calm P Any (f a b))(l:Array γ)(b:β):Calm P Any (forIn l b f):=by
 rw[←Array.forIn_toList];exact jh hf _ _
theorem ly{f:Nat→β→gZ (ForInStep β)}(hf:∀a b,Calm P Any (f a b))(l:Std.Legacy.Range)(b:β):Calm P Any (forIn l b f):=by
 rw[Std.Legacy.Range.forIn_eq_forIn_range'];exact jh hf _ _
end
section
variable{P:aI}
class K (P:aI) {α:Type} (s:gZ α):Prop where
 c:Calm P Any s
theorem bF{p:Prop}(h:p:=by
  repeat' (first|exact K.c|with_reducible (first|exact cC|exact tD|exact bA|exact dJ|exact kn|exact tF|exact ql|exact sx|exact qm|exact tv|exact qZ|exact qY|exact kY|exact jm|exact m7|exact oG|exact(kX rfl)|exact(iC rfl)|assumption)|exact ih ..|(with_reducible apply mG;exact rfl)|(with_reducible refine qi ?_ (fun o ho=>by cases o<;>first|rfl|(revert ho;simp[fL];done)))|(refine j0 (fun _ _=>?_) ?_)|(refine aP ?_ (fun _=>?_))|(refine vg ?_)|(refine pN (fun _=>?_) _)|(refine jh (fun _ _=>?_) _ _)|(refine lz (fun _ _=>?_) _ _)|(refine ly (fun _ _=>?_) _ _)|split|intro _|dsimp only|trivial)):p:=h
instance (x0):K P (viewAt x0):=⟨by unfold viewAt;exact bF⟩
instance (x0):K P (numberAt x0):=⟨by unfold numberAt;exact bF⟩
instance (x0):K P (cellsIn x0):=⟨by unfold cellsIn;exact bF⟩
instance (x0 x1):K P (asNumber x0 x1):=⟨by unfold asNumber;exact bF⟩
instance (x0):K P (behindNumber x0):=⟨by unfold behindNumber;exact bF⟩
instance (x0):K P (backFromNumber x0):=⟨by unfold backFromNumber;exact bF⟩
instance (x0):K P (noView x0):=⟨by unfold noView;exact bF⟩
instance (x0):K P (markStringish x0):=⟨by unfold markStringish;exact bF⟩
instance (x0):K P (stringish x0):=⟨by unfold stringish;exact bF⟩
instance (x0 x1):K P (mayBeOne x0 x1):=⟨by unfold mayBeOne;exact bF⟩
instance (x0 x1):K P (sameAddr x0 x1):=⟨by unfold sameAddr;exact bF⟩
instance (x0 x1):K P (samePointer x0 x1):=⟨by unfold samePointer;exact bF⟩
instance (x0):K P (lF x0):=⟨by unfold lF;exact bF⟩
theorem jr(x0):Calm P Any (lF x0):=K.c
instance (x0):K P (iG x0):=⟨by unfold iG;exact bF⟩
theorem gy(x0):Calm P Any (iG x0):=K.c
instance (x0):K P (cutType x0):=⟨by unfold cutType;exact bF⟩
instance (x0):K P (globalAddr x0):=⟨by unfold globalAddr;exact bF⟩
instance (x0):K P (typeStr x0):=⟨by unfold typeStr;exact bF⟩
theorem tu(x0):Calm P Any (typeStr x0):=K.c
instance (x0):K P (iD x0):=⟨by unfold iD;exact bF⟩
theorem m6(x0):Calm P Any (iD x0):=K.c
instance (x0):K P (sizeOf x0):=⟨by unfold sizeOf;exact bF⟩
theorem La(x0):Calm P Any (sizeOf x0):=K.c
instance (x0):K P (isAgg x0):=⟨by unfold isAgg;exact bF⟩
theorem xJ(a i n acc):Calm P Any (loadCellsFrom a i n acc):=by
 induction n generalizing i acc with
 |zero=>exact cC
 |succ n ih=>exact aP sx fun _=>ih _ _
instance (a i n acc):K P (loadCellsFrom a i n acc):=⟨xJ a i n acc⟩
instance (x0 x1):K P (loadCells x0 x1):=⟨by unfold loadCells;exact bF⟩
theorem tY(a vs i):Calm P Any (storeCells a vs i):=by
 induction vs generalizing i with
 |nil=>exact cC
 |cons v vs ih=>exact aP qm fun _=>ih _
instance (a vs i):K P (storeCells a vs i):=⟨tY a vs i⟩
instance (x0 x1):K P (loadVar x0 x1):=⟨by unfold loadVar;exact bF⟩
theorem tE(x0 x1):Calm P Any (loadVar x0 x1):=K.c
instance (x0 x1 x2):K P (storeVar x0 x1 x2):=⟨by unfold storeVar;exact bF⟩
instance (x0 x1):K P (newRow x0 x1):=⟨by unfold newRow;exact bF⟩
theorem Lc(x0 x1):Calm P Any (newRow x0 x1):=K.c
instance (x0 x1):K P (newVar x0 x1):=⟨by unfold newVar;exact bF⟩
theorem Lb(x0 x1):Calm P Any (newVar x0 x1):=K.c
instance (x0):K P (elemOf x0):=⟨by unfold elemOf;exact bF⟩
theorem Lg(x0):Calm P Any (elemOf x0):=K.c
instance (x0 x1 x2):K P (part x0 x1 x2):=⟨by unfold part;exact bF⟩
theorem GL(x0 x1 x2):Calm P Any (part x0 x1 x2):=K.c
instance {α:Type} (m):K P (panicString m:gZ α):=⟨by unfold panicString;exact bF⟩
instance {α:Type} (e):K P (ej e:gZ α):=⟨by unfold ej;exact bF⟩
theorem ij{α:Type}(e):Calm P Any (ej e:gZ α):=K.c
instance {α:Type} (k x y c):K P (boundsPanic k x y c:gZ α):=⟨by unfold boundsPanic;exact bF⟩
instance (x0):K P (asIntOf x0):=⟨by unfold asIntOf;exact bF⟩
instance (x0):K P (asInt x0):=⟨by unfold asInt;exact bF⟩
theorem qo(x0):Calm P Any (asInt x0):=K.c
instance (x0):K P (asBool x0):=⟨by unfold asBool;exact bF⟩
theorem Lh(x0):Calm P Any (asBool x0):=K.c
instance (x0):K P (asString x0):=⟨by unfold asString;exact bF⟩
theorem kC(x0):Calm P Any (asString x0):=K.c
instance (x0):K P (asAgg x0):=⟨by unfold asAgg;exact bF⟩
theorem tG(x0):Calm P Any (asAgg x0):=K.c
instance (x0):K P (asAddr x0):=⟨by unfold asAddr;exact bF⟩
theorem mL(x0):Calm P Any (asAddr x0):=K.c
instance (x0):K P (byteOf x0):=⟨by unfold byteOf;exact bF⟩
instance (x0 x1 x2):K P (partAt x0 x1 x2):=⟨by unfold partAt;exact bF⟩
instance (x0 x1):K P (fieldPlace x0 x1):=⟨by unfold fieldPlace;exact bF⟩
theorem Cm(x0 x1):Calm P Any (fieldPlace x0 x1):=K.c
instance (x0 x1 x2):K P (variablesAt x0 x1 x2):=⟨by unfold variablesAt;exact bF⟩
instance (x0 x1 x2):K P (intVariablesAt x0 x1 x2):=⟨by unfold intVariablesAt;exact bF⟩
instance (x0 x1):K P (byteVariablesAt x0 x1):=⟨by unfold byteVariablesAt;exact bF⟩
theorem EG(a acc n):Calm P Any (loadBytes a acc n):=by
 induction n generalizing acc a with
 |zero=>unfold loadBytes;exact cC
 |succ n ih=>
  unfold loadBytes
  all_goals exact bF
instance (a acc n):K P (loadBytes a acc n):=⟨EG a acc n⟩
instance (x0 x1):K P (storeBytes x0 x1):=⟨by unfold storeBytes;exact bF⟩
instance (x0):K P (Instr.sureAddr x0):=⟨by unfold Instr.sureAddr;exact bF⟩
instance (x0 x1):K P (A3 x0 x1):=⟨by unfold A3;exact bF⟩
theorem zB(x0 x1):Calm P Any (A3 x0 x1):=K.c
instance (x0 x1 x2):K P (Instr.storeAt x0 x1 x2):=⟨by unfold Instr.storeAt;exact bF⟩
theorem xK(x0 x1 x2):Calm P Any (Instr.storeAt x0 x1 x2):=K.c
instance (x0 x1 x2):K P (Instr.fieldAt x0 x1 x2):=⟨by unfold Instr.fieldAt;exact bF⟩
theorem xP(x0 x1 x2):Calm P Any (Instr.fieldAt x0 x1 x2):=K.c
instance (x0 x1 x2):K P (jf x0 x1 x2):=⟨by unfold jf;exact bF⟩
theorem xN(x0 x1 x2):Calm P Any (jf x0 x1 x2):=K.c
instance (x0 x1 x2):K P (Instr.alloc x0 x1 x2):=⟨by unfold Instr.alloc;exact bF⟩
theorem AK(x0 x1 x2):Calm P Any (Instr.alloc x0 x1 x2):=K.c
instance (x0 x1):K P (Instr.box x0 x1):=⟨by unfold Instr.box;exact bF⟩
theorem EJ(x0 x1):Calm P Any (Instr.box x0 x1):=K.c
instance (x0 x1):K P (Instr.build x0 x1):=⟨by unfold Instr.build;exact bF⟩
theorem AH(x0 x1):Calm P Any (Instr.build x0 x1):=K.c
instance (x0 x1 x2):K P (Instr.buildSlice x0 x1 x2):=⟨by unfold Instr.buildSlice;exact bF⟩
theorem ux(x0 x1 x2):Calm P Any (Instr.buildSlice x0 x1 x2):=K.c
instance (x0):K P (Instr.entry x0):=⟨by unfold Instr.entry;exact bF⟩
theorem AG(x0):Calm P Any (Instr.entry x0):=K.c
instance (x0 x1):K P (Instr.extract x0 x1):=⟨by unfold Instr.extract;exact bF⟩
theorem xQ(x0 x1):Calm P Any (Instr.extract x0 x1):=K.c
instance (x0 x1 x2):K P (Instr.field x0 x1 x2):=⟨by unfold Instr.field;exact bF⟩
theorem AE(x0 x1 x2):Calm P Any (Instr.field x0 x1 x2):=K.c
instance (x0 x1 x2):K P (mC x0 x1 x2):=⟨by unfold mC;exact bF⟩
theorem AB(x0 x1 x2):Calm P Any (mC x0 x1 x2):=K.c
instance (x0 x1):K P (Op.twoPlaces x0 x1):=⟨by unfold Op.twoPlaces;exact bF⟩
instance (x0 x1 x2):K P (Op.addrSub x0 x1 x2):=⟨by unfold Op.addrSub;exact bF⟩
instance (x0 x1 x2):K P (Op.addrCmp x0 x1 x2):=⟨by unfold Op.addrCmp;exact bF⟩
instance (x0 x1 x2):K P (Op.addrMod x0 x1 x2):=⟨by unfold Op.addrMod;exact bF⟩
instance (x0 x1 x2 x3):K P (Op.floatArith x0 x1 x2 x3):=⟨by unfold Op.floatArith;exact bF⟩
instance (x0 x1 x2 x3):K P (Op.floatCmp x0 x1 x2 x3):=⟨by unfold Op.floatCmp;exact bF⟩
instance (x0 x1 x2 x3):K P (Op.intArith x0 x1 x2 x3):=⟨by unfold Op.intArith;exact bF⟩
instance (x0 x1 x2 x3):K P (Op.intBits x0 x1 x2 x3):=⟨by unfold Op.intBits;exact bF⟩
instance (x0 x1 x2):K P (Op.intCmp x0 x1 x2):=⟨by unfold Op.intCmp;exact bF⟩
instance (x0 x1 x2 x3):K P (Op.intDiv x0 x1 x2 x3):=⟨by unfold Op.intDiv;exact bF⟩
instance (x0 x1 x2 x3 x4):K P (Op.shift x0 x1 x2 x3 x4):=⟨by unfold Op.shift;exact bF⟩
instance (x0 x1 x2):K P (Op.stringOp x0 x1 x2):=⟨by unfold Op.stringOp;exact bF⟩
instance (x0 x1 x2):K P (Conv.floatToFloat x0 x1 x2):=⟨by unfold Conv.floatToFloat;exact bF⟩
instance (x0 x1 x2):K P (Conv.floatToInt x0 x1 x2):=⟨by unfold Conv.floatToInt;exact bF⟩
instance (x0 x1):K P (Conv.intToFloat x0 x1):=⟨by unfold Conv.intToFloat;exact bF⟩
instance (x0 x1):K P (Conv.intToInt x0 x1):=⟨by unfold Conv.intToInt;exact bF⟩
instance (x0):K P (Conv.intToString x0):=⟨by unfold Conv.intToString;exact bF⟩
instance (x0 x1 x2 x3):K P (Conv.complexToComplex x0 x1 x2 x3):=⟨by unfold Conv.complexToComplex;exact bF⟩
instance (x0):K P (Conv.bytesToString x0):=⟨by unfold Conv.bytesToString;exact bF⟩
instance (x0):K P (Conv.runesToString x0):=⟨by unfold Conv.runesToString;exact bF⟩
instance (x0 x1):K P (Conv.stringToBytes x0 x1):=⟨by unfold Conv.stringToBytes;exact bF⟩
instance (x0 x1):K P (Conv.stringToRunes x0 x1):=⟨by unfold Conv.stringToRunes;exact bF⟩
instance (x0):K P (Conv.seenAt x0):=⟨by unfold Conv.seenAt;exact bF⟩
instance (x0 x1 x2):K P (Conv.unsafePointer x0 x1 x2):=⟨by unfold Conv.unsafePointer;exact bF⟩
instance (x0 x1 x2 x3):K P (Op.Complex.arith x0 x1 x2 x3):=⟨by unfold Op.Complex.arith;exact bF⟩
instance (x0 x1 x2 x3):K P (Op.Complex.cmp x0 x1 x2 x3):=⟨by unfold Op.Complex.cmp;exact bF⟩
instance (x0 x1 x2):K P (Op.Complex.conv x0 x1 x2):=⟨by unfold Op.Complex.conv;exact bF⟩
instance (x0 x1):K P (Op.Complex.add x0 x1):=⟨by unfold Op.Complex.add;exact bF⟩
instance (x0 x1):K P (Op.Complex.sub x0 x1):=⟨by unfold Op.Complex.sub;exact bF⟩
instance (x0 x1):K P (Op.Complex.mul x0 x1):=⟨by unfold Op.Complex.mul;exact bF⟩
instance (x0 x1):K P (Op.Complex.quo x0 x1):=⟨by unfold Op.Complex.quo;exact bF⟩
instance (x0 x1 x2 x3):K P (Op.Complex.product x0 x1 x2 x3):=⟨by unfold Op.Complex.product;exact bF⟩
instance (x0 x1 x2 x3 x4):K P (Op.Complex.corrected x0 x1 x2 x3 x4):=⟨by unfold Op.Complex.corrected;exact bF⟩
theorem rD(a b c d):Calm P Any (Op.Complex.quotient a b c d):=by
 unfold Op.Complex.quotient;refine aP (K.c) fun t=>?_
 extract_lets jp
 have hjp:∀x,Calm P Any (jp x):=by
  rintro⟨e,f⟩;show Calm P Any (Op.Complex.cmp BinOp.eql FloatKind.f64 c 0 >>= _);refine aP (K.c) fun t=>aP (K.c) fun u=>?_
  extract_lets zero
  split
  ·exact cC
  ·split
   ·exact aP (K.c) fun _=>aP (K.c) fun _=>cC
   ·split
    ·exact K.c
    ·split
     ·exact K.c
     ·exact cC
 clear_value jp
 cases t
 ·simp only[bu,if_false];exact aP (K.c) fun _=>aP (K.c) fun _=>aP (K.c) fun _=>aP (K.c) fun _=>aP (K.c) fun _=>aP (K.c) fun _=>aP (K.c) fun _=>aP (K.c) fun _=>aP (K.c) fun _=>aP cC fun _=>hjp _
 ·simp only[if_true];exact aP (K.c) fun _=>aP (K.c) fun _=>aP (K.c) fun _=>aP (K.c) fun _=>aP (K.c) fun _=>aP (K.c) fun _=>aP (K.c) fun _=>aP (K.c) fun _=>aP (K.c) fun _=>aP cC fun _=>hjp _
instance (a b c d):K P (Op.Complex.quotient a b c d):=⟨rD a b c d⟩
instance (x0 x1 x2 x3 x4 x5):K P (Op.complexOp x0 x1 x2 x3 x4 x5):=⟨by unfold Op.complexOp;exact bF⟩
instance (x0 x1):K P (Op.unary x0 x1):=⟨by unfold Op.unary;exact bF⟩
theorem FQ(x0 x1):Calm P Any (Op.unary x0 x1):=K.c
theorem Co(n t x y):Calm P Any (Op.equalIn n t x y):=by
 induction n generalizing t x y with
 |zero=>unfold Op.equalIn;exact dJ
 |succ n ih=>
  unfold Op.equalIn
  all_goals exact bF
instance (n t x y):K P (Op.equalIn n t x y):=⟨Co n t x y⟩
instance (x0 x1 x2):K P (Op.equal x0 x1 x2):=⟨by unfold Op.equal;exact bF⟩
theorem zy(n t x y):Calm P Any (Op.eqGuardIn n t x y):=by
 induction n generalizing t x y with
 |zero=>unfold Op.eqGuardIn;exact dJ
 |succ n ih=>
  unfold Op.eqGuardIn
  all_goals exact bF
instance (n t x y):K P (Op.eqGuardIn n t x y):=⟨zy n t x y⟩
theorem wh(e n t v):Calm P Any (nu e n t v):=by
 induction n generalizing t v with
 |zero=>unfold nu;exact dJ
 |succ n ih=>
  unfold nu
  all_goals exact bF
instance (e n t v):K P (nu e n t v):=⟨wh e n t v⟩
theorem uv(t k es i):Calm P Any (jg t k es i):=by
 induction es generalizing i with
 |nil=>unfold jg;exact cC
 |cons e es ih=>
  unfold jg
  all_goals exact bF
instance (t k es i):K P (jg t k es i):=⟨uv t k es i⟩
instance (x0 x1 x2):K P (Cv x0 x1 x2):=⟨by unfold Cv;exact bF⟩
instance (x0 x1 x2 x3):K P (Instr.lookup x0 x1 x2 x3):=⟨by unfold Instr.lookup;exact bF⟩
theorem zA(x0 x1 x2 x3):Calm P Any (Instr.lookup x0 x1 x2 x3):=K.c
instance (x0 x1):K P (Instr.makeChan x0 x1):=⟨by unfold Instr.makeChan;exact bF⟩
theorem wb(x0 x1):Calm P Any (Instr.makeChan x0 x1):=K.c
instance (x0 x1 x2):K P (Instr.makeFunc x0 x1 x2):=⟨by unfold Instr.makeFunc;exact bF⟩
theorem wa(x0 x1 x2):Calm P Any (Instr.makeFunc x0 x1 x2):=K.c
instance (x0 x1):K P (Instr.makeInterface x0 x1):=⟨by unfold Instr.makeInterface;exact bF⟩
theorem rE(x0 x1):Calm P Any (Instr.makeInterface x0 x1):=K.c
instance (x0 x1):K P (Instr.makeMap x0 x1):=⟨by unfold Instr.makeMap;exact bF⟩
theorem xM(x0 x1):Calm P Any (Instr.makeMap x0 x1):=K.c
instance (x0 x1 x2):K P (Instr.makeSlice x0 x1 x2):=⟨by unfold Instr.makeSlice;exact bF⟩
theorem vn(x0 x1 x2):Calm P Any (Instr.makeSlice x0 x1 x2):=K.c
instance (x0 x1):K P (Instr.keyThatStays x0 x1):=⟨by unfold Instr.keyThatStays;exact bF⟩
instance (x0 x1 x2 x3):K P (zQ x0 x1 x2 x3):=⟨by unfold zQ;exact bF⟩
theorem oH(x0 x1 x2 x3):Calm P Any (zQ x0 x1 x2 x3):=K.c
instance (x0 x1 x2):K P (Instr.mapEntry x0 x1 x2):=⟨by unfold Instr.mapEntry;exact bF⟩
theorem vZ(x0 x1 x2):Calm P Any (Instr.mapEntry x0 x1 x2):=K.c
instance (x0 x1 x2 x3):K P (Instr.entryStore x0 x1 x2 x3):=⟨by unfold Instr.entryStore;exact bF⟩
theorem uw(x0 x1 x2 x3):Calm P Any (Instr.entryStore x0 x1 x2 x3):=K.c
instance (x0 x1 x2):K P (Instr.next x0 x1 x2):=⟨by unfold Instr.next;exact bF⟩
theorem Cp(x0 x1 x2):Calm P Any (Instr.next x0 x1 x2):=K.c
instance (x0):K P (Instr.waits x0):=⟨by unfold Instr.waits;exact bF⟩
theorem Az(x0):Calm P Any (Instr.waits x0):=K.c
instance (x0):K P (Instr.ready x0):=⟨by unfold Instr.ready;exact bF⟩
theorem AA(x0):Calm P Any (Instr.ready x0):=K.c
instance (x0 x1 x2):K P (Instr.sliceBound x0 x1 x2):=⟨by unfold Instr.sliceBound;exact bF⟩
instance (x0 x1 x2 x3 x4 x5):K P (Instr.sliceBounds x0 x1 x2 x3 x4 x5):=⟨by unfold Instr.sliceBounds;exact bF⟩
instance (x0 x1 x2 x3 x4):K P (Instr.slice x0 x1 x2 x3 x4):=⟨by unfold Instr.slice;exact bF⟩
instance (x0 x1 x2 x3 x4):K P (Instr.sliceAt x0 x1 x2 x3 x4):=⟨by unfold Instr.sliceAt;exact bF⟩
theorem xL(x0 x1 x2 x3 x4):Calm P Any (Instr.sliceAt x0 x1 x2 x3 x4):=K.c
instance (x0 x1):K P (Instr.arrayAt x0 x1):=⟨by unfold Instr.arrayAt;exact bF⟩
theorem xR(x0 x1):Calm P Any (Instr.arrayAt x0 x1):=K.c
instance (x0 x1):K P (Builtin.holdsCells x0 x1):=⟨by unfold Builtin.holdsCells;exact bF⟩
instance (x0 x1 x2 x3 x4):K P (pD x0 x1 x2 x3 x4):=⟨by unfold pD;exact bF⟩
theorem uy(x0 x1 x2 x3 x4):Calm P Any (pD x0 x1 x2 x3 x4):=K.c
instance (x0):K P (Builtin.lenOf x0):=⟨by unfold Builtin.lenOf;exact bF⟩
theorem xT(x0):Calm P Any (Builtin.lenOf x0):=K.c
instance (x0 x1 x2):K P (eJ x0 x1 x2):=⟨by unfold eJ;exact bF⟩
theorem mM(x0 x1 x2):Calm P Any (eJ x0 x1 x2):=K.c
instance (x0 x1 x2):K P (Builtin.cap_ x0 x1 x2):=⟨by unfold Builtin.cap_;exact bF⟩
theorem zD(x0 x1 x2):Calm P Any (Builtin.cap_ x0 x1 x2):=K.c
instance (x0 x1 x2):K P (Builtin.clear_ x0 x1 x2):=⟨by unfold Builtin.clear_;exact bF⟩
theorem wu(x0 x1 x2):Calm P Any (Builtin.clear_ x0 x1 x2):=K.c
theorem o7(x0 x1 x2):Calm P Any (Builtin.close_ x0 x1 x2):=by
 unfold Builtin.close_;obtain⟨l⟩:=x2;rcases l with _|⟨a,_|⟨b,_|⟨c,_|⟨d,l⟩⟩⟩⟩
 all_goals (try dsimp only)
 all_goals (try (cases a<;>try dsimp only))
 all_goals (try (rename_i r;cases r<;>try dsimp only))
 all_goals (try exact bA)
 all_goals (try exact K.c)
 all_goals exact bF
instance (x0 x1 x2):K P (Builtin.close_ x0 x1 x2):=⟨o7 x0 x1 x2⟩
instance (x0 x1 x2):K P (Builtin.copy_ x0 x1 x2):=⟨by unfold Builtin.copy_;exact bF⟩
theorem xU(x0 x1 x2):Calm P Any (Builtin.copy_ x0 x1 x2):=K.c
instance (x0 x1 x2):K P (Builtin.delete_ x0 x1 x2):=⟨by unfold Builtin.delete_;exact bF⟩
theorem vo(x0 x1 x2):Calm P Any (Builtin.delete_ x0 x1 x2):=K.c
instance (x0 x1 x2):K P (Builtin.len_ x0 x1 x2):=⟨by unfold Builtin.len_;exact bF⟩
theorem zC(x0 x1 x2):Calm P Any (Builtin.len_ x0 x1 x2):=K.c
instance (x0 x1):K P (Builtin.max2 x0 x1):=⟨by unfold Builtin.max2;exact bF⟩
instance (x0 x1):K P (Builtin.min2 x0 x1):=⟨by unfold Builtin.min2;exact bF⟩
theorem q9(x0 x1 x2):Calm P Any (Builtin.max_ x0 x1 x2):=by
 unfold Builtin.max_;split
 ·first|exact bA|exact cC
 ·refine BU (fun _ _=>K.c) _ _
instance (x0 x1 x2):K P (Builtin.max_ x0 x1 x2):=⟨q9 x0 x1 x2⟩
theorem q7(x0 x1 x2):Calm P Any (Builtin.min_ x0 x1 x2):=by
 unfold Builtin.min_;split
 ·first|exact bA|exact cC
 ·refine BU (fun _ _=>K.c) _ _
instance (x0 x1 x2):K P (Builtin.min_ x0 x1 x2):=⟨q7 x0 x1 x2⟩
theorem sD(x0 x1 x2):Calm P Any (Builtin.unsafeAdd_ x0 x1 x2):=by
 unfold Builtin.unsafeAdd_;obtain⟨l⟩:=x2;rcases l with _|⟨a,_|⟨b,_|⟨c,_|⟨d,l⟩⟩⟩⟩
 all_goals (try dsimp only)
 all_goals (try (cases a<;>try dsimp only))
 all_goals (try (rename_i r;cases r<;>try dsimp only))
 all_goals (try exact bA)
 all_goals (try exact K.c)
 all_goals exact bF
instance (x0 x1 x2):K P (Builtin.unsafeAdd_ x0 x1 x2):=⟨sD x0 x1 x2⟩
theorem kH(x0 x1 x2):Calm P Any (Builtin.ssaWrapNilChk_ x0 x1 x2):=by
 unfold Builtin.ssaWrapNilChk_;obtain⟨l⟩:=x2;rcases l with _|⟨a,_|⟨b,_|⟨c,_|⟨d,l⟩⟩⟩⟩
 ·exact bA
 ·exact bA
 ·exact bA
 ·cases b<;>try exact bA
  cases c<;>try exact bA
  cases a<;>try exact bA
  rename_i s1 s2 r;cases r with
  |some r=>exact cC
  |none=>
   dsimp only;refine aP kY fun _=>?_
   have key:∀(o:Option aX),Calm P Any (match o with
     |some pt=>do
      let .pointer t ←iG pt|stuck "ssa:wrapnilchk: pointer type expected"
      let .named name _:=(←lF t).desc|stuck "ssa:wrapnilchk: defined type expected"
      let some m:=String.fromUTF8? s2|stuck "ssa:wrapnilchk: the method's name is not UTF-8"
      let base:=(name.splitOn "[").headD ""
      let targs:=if base==name then "" else "[...]"
      match ((base.splitOn "/").getLastD "").splitOn "." with
      |[_,typ]=>
       ej (.plain ("value method "++toString base++toString targs++ "."++toString m++ " called using nil *"++toString typ++toString targs++ " pointer"))
      |_=>qC (.noEntry "builtin/ssaWrapNilChk.dot in the package path")
     |_=>stuck "ssa:wrapnilchk: no argument types" : gZ aj):=by
    intro o;cases o with
    |none=>exact bA
    |some pt=>
     refine aP (K.c) fun u=>?_;cases u<;>try exact bA
     refine aP (K.c) fun u=>?_;generalize u.desc=d;cases d<;>try exact bA
     dsimp only;generalize String.fromUTF8? s2=o2;cases o2<;>try exact bA
     dsimp only
     generalize String.splitOn _ "." = sp;split
     ·exact K.c
     ·exact dJ
   split
   ·exact aP (K.c) fun _=>key _
   ·exact key _
 ·exact bA
instance (x0 x1 x2):K P (Builtin.ssaWrapNilChk_ x0 x1 x2):=⟨kH x0 x1 x2⟩
theorem sA(t x):Calm P Any (Instr.range t x):=by
 unfold Instr.range;refine aP (K.c) fun _=>?_
 repeat' (first|exact cC|exact bA|exact dJ|exact(ED rfl)|exact(kX ‹_›)|(with_reducible apply mG;exact rfl)|(with_reducible refine qi ?_ (fun o ho=>by cases o<;>first|rfl|(revert ho;simp[fL];done)))|(refine j0 (fun _ _=>?_) ?_)|(refine ep (R:=fun o=>fL o=true) ?_ (fun _ _=>?_))|(refine aP ?_ (fun _=>?_))|split|dsimp only)
instance (t x):K P (Instr.range t x):=⟨sA t x⟩
instance (x0 x1 x2 x3):K P (Instr.typeAssert x0 x1 x2 x3):=⟨by unfold Instr.typeAssert;exact bF⟩
theorem uu(x0 x1 x2 x3):Calm P Any (Instr.typeAssert x0 x1 x2 x3):=K.c
instance (x0 x1 x2):K P (movedNumber x0 x1 x2):=⟨by unfold movedNumber;exact bF⟩
instance (x0 x1 x2):K P (movedPointer x0 x1 x2):=⟨by unfold movedPointer;exact bF⟩
instance (x0 x1 x2 x3 x4 x5):K P (eqGuard x0 x1 x2 x3 x4 x5):=⟨by unfold eqGuard;exact bF⟩
theorem I4(x0 x1 x2 x3 x4 x5):Calm P Any (eqGuard x0 x1 x2 x3 x4 x5):=K.c
theorem EI(x0 x1 x2 x3):Calm P Any (binOp x0 x1 x2 x3):=by
 unfold binOp
 all_goals exact bF
instance (x0 x1 x2 x3):K P (binOp x0 x1 x2 x3):=⟨EI x0 x1 x2 x3⟩
theorem zx(x0 x1 x2):Calm P Any (convert x0 x1 x2):=by
 unfold convert
 all_goals exact bF
instance (x0 x1 x2):K P (convert x0 x1 x2):=⟨zx x0 x1 x2⟩
end
section
variable{P:aI}
theorem TX{β:Type}{Q:β→Prop}{c:Prop}[Decidable c]{s t:gZ β}(hs:Calm P Q s)(ht:Calm P Q t):Calm P Q (if c then s else t):=by
 split
 ·exact hs
 ·exact ht
theorem Li:Jl .env:=fun os=>⟨.strings os.env,rfl,by simp⟩
theorem FN:Calm P Any Instr.panicnil:=by
 unfold Instr.panicnil;refine aP (?_:Calm P Any (sys .env)) fun r=>?_
 ·exact⟨Li,fun _=>trivial⟩
 ·split
  ·exact aP jm fun _=>cC
  ·exact bA
theorem sB(x):Calm P Any (Instr.panic x):=by
 unfold Instr.panic;split
 ·exact kn
 ·refine aP FN fun n=>?_;split
  ·exact kn
  ·exact ij _
 ·exact bA
theorem Ay(zeros:Bool)(x0:Array aX)(x:aj)(elem:aX)(size oQ De n:Nat)(base:Option cU)(s:aj)(appended:gZ (Array aj))(ha:Calm P Any appended) :
  Calm P Any (if oQ+n≤De then do
    let new ←appended
    if let some a:=base then storeCells (a.add (oQ*size)) new.toList
    pure (.slice base (oQ+n) De)
   else do
    if ((oQ+n:Nat):Int)>IntKind.i64.max∧(zeros=true∨(←lF elem).bytes=0) then ej (.error "growslice: len out of range")
    if Builtin.nextslicecap (oQ+n) De*(←lF elem).bytes>2 ^ 48 then(if zeros=true then ej (.error "growslice: len out of range") else do
     if !(←pD size oQ n base x) then mark .noRoom
     qC (.resourceLimit "append: a slice or a string whose bytes no memory bears"))
    let l6 ←choose (.appendCap (oQ+n) De elem)
    askRoom (l6*(←lF elem).bytes)
    let old ←eJ size oQ s;let new ←appended;let rest:=fE (←iD elem).cells (l6-(oQ+n))
    pure (.slice (some (←newRow elem (old++new++rest))) (oQ+n) l6:aj):gZ aj):=by
 repeat' (first
   |with_reducible exact ha|with_reducible exact cC|with_reducible exact dJ|with_reducible exact kY|with_reducible exact m7|with_reducible exact oG
   |with_reducible exact ij ..|with_reducible exact jr ..|with_reducible exact m6 ..|with_reducible exact Lc ..|with_reducible exact tY ..|with_reducible exact mM ..|with_reducible exact uy ..
   |(refine aP ?_ (fun _=>?_))|split|dsimp only)
theorem vp(x0 x1 x2):Calm P Any (j6 x0 x1 x2):=by
 unfold j6;split
 ·rename_i ahD s x _;refine aP (gy ..) fun u=>?_;split
  ·rename_i elem;split
   ·rename_i base oQ De _;refine aP (La ..) fun size=>?_
    have key:∀(zeros:Bool) (n:Nat),Calm P Any (if oQ+n≤De then do
      let new ←(if !zeros then eJ size n x else if n*size=0 then pure #[] else do pure (fE (←iD elem).cells n):gZ (Array aj))
      if let some a:=base then storeCells (a.add (oQ*size)) new.toList
      pure (.slice base (oQ+n) De)
     else do
      if ((oQ+n:Nat):Int)>IntKind.i64.max∧(zeros=true∨(←lF elem).bytes=0) then ej (.error "growslice: len out of range")
      if Builtin.nextslicecap (oQ+n) De*(←lF elem).bytes>2 ^ 48 then(if zeros=true then ej (.error "growslice: len out of range") else do
       if !(←pD size oQ n base x) then mark .noRoom
       qC (.resourceLimit "append: a slice or a string whose bytes no memory bears"))
      let l6 ←choose (.appendCap (oQ+n) De elem)
      askRoom (l6*(←lF elem).bytes)
      let old ←eJ size oQ (.slice base oQ De);let new ←(if !zeros then eJ size n x else if n*size=0 then pure #[] else do pure (fE (←iD elem).cells n):gZ (Array aj))
      let rest:=fE (←iD elem).cells (l6-(oQ+n))
      pure (.slice (some (←newRow elem (old++new++rest))) (oQ+n) l6:aj):gZ aj):=by
     intro zeros n;refine Ay zeros x0 x elem size oQ De n base _ _ ?_;split
     ·exact mM ..
     ·split
      ·exact cC
      ·exact aP (m6 ..) fun _=>cC
    dsimp only
    repeat' (first
     |with_reducible exact cC|with_reducible exact bA|with_reducible exact kY|with_reducible exact ij ..|with_reducible exact gy ..|with_reducible exact qo ..|with_reducible exact jr ..|with_reducible exact xT ..
     |exact key _ _|(with_reducible refine TX ?_ ?_)|(refine aP ?_ (fun _=>?_))|split)
   ·exact bA
  ·exact bA
 ·exact bA
end
def eD:Next→Prop
 |.value _|.skip|.enter ..|.recover|.comm ..=>True
 |.round _ _ _ assign body=>dP assign=true∧dP body=true
 |.defer d|.spawn d=>o6 d=true
 |_=>False
structure T9(P:aI):Prop where
 body:∀(f:dR) (fn:Func) (c:Code),P.funcs[f]?=some fn→fn.body=some c→dP c=true
 ext:∀(f:dR) (fn:Func) (args:Array aj),P.funcs[f]?=some fn→fn.body=none→Calm P eD (fh f args)
 name:∀(f:dR) (fn:Func),P.funcs[f]?=some fn→(fn.name == "runtime.NumGoroutine")=false
section
variable{P:aI}
theorem eU{α:Type}{Q:α→Prop}(e):Calm P Q (ej e:gZ α):=by
 unfold ej
 repeat' (first
   |with_reducible exact kn|with_reducible exact jm|with_reducible exact Lg ..|with_reducible exact Lb ..|(refine aP ?_ (fun _=>?_))|split|dsimp only)
theorem I6(b ats t cs args)(hb:Ab b=true):Calm P eD (builtin b ats t cs args):=by
 cases b<;>first|(exact absurd hb (by decide))|skip
 all_goals unfold builtin
 all_goals dsimp only
 all_goals first
  |exact aP (vp ..) fun _=>trivial
  |exact aP (zD ..) fun _=>trivial
  |exact aP (wu ..) fun _=>trivial
  |exact aP (o7 ..) fun _=>trivial
  |exact aP (xU ..) fun _=>trivial
  |exact aP (vo ..) fun _=>trivial
  |exact aP (zC ..) fun _=>trivial
  |exact aP (q9 ..) fun _=>trivial
  |exact aP (q7 ..) fun _=>trivial
  |exact aP (sB ..) fun _=>trivial
  |trivial
theorem rC(T:T9 P)(f args):Calm P eD (fh f args):=by
 cases hf:P.funcs[f]? with
 |none=>
  unfold fh;refine ep (R:=fun p=>p=P) (show P=P from rfl) ?_;rintro p rfl;rw[hf];exact bA
 |some fn=>
  cases hb:fn.body with
  |none=>exact T.ext f fn args hf hb
  |some c=>
   unfold fh;refine ep (R:=fun p=>p=P) (show P=P from rfl) ?_;rintro p rfl;rw[hf];simp only[T.name f fn hf,hb,Option.isNone_some,bu,if_false];exact trivial
theorem qp(t x):Calm P Any (Place.get t x):=by
 cases x
 ·exact cC
 ·exact tE ..
theorem BS(l t x):Calm P Any (follow l t x):=by
 induction l generalizing t x with
 |nil=>exact cC
 |cons s l ih=>
  unfold follow
  repeat' (first
   |with_reducible exact cC|with_reducible exact bA|with_reducible exact gy ..|with_reducible exact mL ..|with_reducible exact qp ..|with_reducible exact Cm ..|with_reducible exact GL ..|exact ih ..
   |(refine aP ?_ (fun _=>?_))|split)
theorem tZ(a b c d):Calm P Any (receiverAt a b c d):=by
 unfold receiverAt
 repeat' (first
   |with_reducible exact cC|with_reducible exact bA|with_reducible exact gy ..|with_reducible exact mL ..|with_reducible exact qp ..|with_reducible exact tE ..|with_reducible exact kH ..
   |(refine aP ?_ (fun _=>?_))|split)
theorem Av(a b c d):Calm P Any (receiverVia a b c d):=by
 unfold receiverVia;refine aP (BS ..) fun _=>?_;exact tZ ..
theorem Ld(n t v s):Calm P Any (method n t v s):=by
 induction n generalizing t v with
 |zero=>exact dJ
 |succ n ih=>
  unfold method
  repeat' (first
   |with_reducible exact cC|with_reducible exact bA|with_reducible exact ij ..|with_reducible exact jr ..|with_reducible exact BS ..|with_reducible exact qp ..|with_reducible exact tZ ..|exact ih ..
   |(refine aP ?_ (fun _=>?_))|split)
theorem Aw(l t x):Calm P Any (followBlind l t x):=by
 induction l generalizing t x with
 |nil=>exact cC
 |cons s l ih=>
  unfold followBlind
  repeat' (first
   |with_reducible exact cC|with_reducible exact bA|with_reducible exact gy ..|with_reducible exact GL ..|exact ih ..
   |(refine aP ?_ (fun _=>?_))|split)
theorem FO(n t v s):Calm P Any (nilAhead n t v s):=by
 induction n generalizing t v with
 |zero=>exact cC
 |succ n ih=>
  unfold nilAhead
  repeat' (first
   |with_reducible exact cC|with_reducible exact bA|with_reducible exact jr ..|with_reducible exact gy ..|with_reducible exact Aw ..|exact ih ..
   |(refine aP ?_ (fun _=>?_))|split)
theorem ua(T:T9 P)(r n args):Calm P eD (callMethod r n args):=by
 unfold callMethod;split
 ·exact aP jm fun _=>aP (Ld ..) fun _=>rC T ..
 ·exact eU _
 ·exact bA
theorem lx(l):Calm P (fun r=>xj r=true) (Instr.getLoop l):=by
 unfold Instr.getLoop;refine j0 (fun o ho=>?_) (mG rfl);split
 ·exact ho
 ·exact bA
theorem Nq(l args):Calm P eD (Instr.yield l args):=by
 unfold Instr.yield;refine ep (lx l) fun r hr=>?_
 have cS:dP r.assign=true∧dP r.body=true:=by
  simp only[xj,aC] at hr;exact⟨hr.1.2,hr.2⟩
 split
 ·exact aP bA fun _=>cS
 ·exact cS
theorem qX(T:T9 P)(t args)(ht:J3 t=true):Calm P eD (invoke t args):=by
 unfold invoke;split
 ·exact eU _
 ·exact I6 _ _ _ _ _ ht
 ·exact rC T ..
 ·split
  ·exact ua T ..
  ·exact bA
 ·split
  ·refine aP (gy ..) fun _=>?_;exact ua T ..
  ·exact bA
 ·split
  ·refine aP (Av ..) fun _=>?_;exact rC T ..
  ·exact bA
 ·exact Nq _ _
 ·exact bA
 ·cases ht
theorem lu(ρ c t)(hc:H4 c=true):Calm P (fun d=>o6 d=true) (resolve ρ c t):=by
 unfold resolve;unfold H4 at hc;split
 ·rename_i b hb;rw[hb] at hc;exact hc
 ·show o6 _=true;rfl
 ·unfold Deferred.ofValue;split
  ·show o6 _=true;rfl
  ·show o6 _=true;rfl
  ·exact bA
theorem dW{s:gZ aj}(h:Calm P Any s):Calm P eD (do pure (.value (←s))):=aP h fun _=>trivial
theorem sw{s:gZ Unit}(h:Calm P Any s):Calm P eD (do s;pure .skip):=aP h fun _=>trivial
theorem Le(T:T9 P)(ρ o)(ho:Aa o=true):Calm P eD (execOp ρ o):=by
 unfold Aa at ho;unfold execOp;cases hop:o.op with
 |nilCheck x=>
  dsimp only
  repeat' (first|with_reducible exact eU _|with_reducible exact jm|with_reducible exact FO ..|with_reducible exact dJ|exact ED (show eD _ from trivial)|(refine aP ?_ (fun _=>?_))|split)|call c=>
  rw[hop] at ho;exact ep (lu _ _ _ ho) fun d hd=>qX T _ _ hd
 |go c=>
  rw[hop] at ho;exact ep (lu _ _ _ ho) fun d hd=>hd
 |defer c=>
  rw[hop] at ho;exact ep (lu _ _ _ ho) fun d hd=>hd
 |recv ct ch ok=>
  dsimp only;refine aP (gy ..) fun _=>?_;split
  ·exact aP (m6 ..) fun _=>trivial
  ·exact bA
 |select cs b=>
  dsimp only;exact aP (pN (fun _=>aP (m6 ..) fun _=>cC) _) fun _=>trivial
 |pick c a b=>
  dsimp only;refine aP (Lh ..) fun _=>?_;exact trivial
 |binOp op t x y u=>exact dW (aP (I4 ..) fun _=>EI ..)
 |alloc=>exact dW (AK ..)
 |box=>exact dW (EJ ..)
 |build=>exact dW (AH ..)
 |buildSlice=>exact dW (ux ..)
 |load=>exact dW (zB ..)
 |store=>exact sw (xK ..)
 |ready=>exact sw (AA _)
 |waits=>exact dW (Az _)
 |sliceToArrayPointer=>exact dW (xR ..)
 |makeInterface=>exact dW (rE ..)
 |makeFunc=>exact dW (wa ..)
 |makeMap=>exact dW (xM ..)
 |makeChan=>exact dW (wb ..)
 |makeSlice=>exact dW (vn ..)
 |slice=>exact dW (xL ..)
 |fieldAddr=>exact dW (xP ..)
 |field=>exact dW (AE ..)
 |indexAddr=>exact dW (xN ..)
 |index=>exact dW (AB ..)
 |lookup=>exact dW (zA ..)
 |mapUpdate=>exact sw (oH ..)
 |insert=>exact sw (oH ..)
 |mapEntry=>exact dW (vZ ..)
 |entryStore=>exact sw (uw ..)
 |range=>exact dW (sA ..)
 |next=>exact dW (Cp ..)
 |entry=>exact dW (AG ..)
 |typeAssert=>exact dW (uu ..)
 |extract=>exact dW (xQ ..)
 |panic=>exact dW (sB ..)
 |unOp=>exact dW (FQ ..)
 |convert=>exact dW (zx ..)
 |move|assign|send=>exact(show eD _ from trivial)
theorem EH(fn tmps params assign body around)(ha:dP assign=true)(hb:dP body=true):Calm P (fun r=>r.2.all o6=true) (Instr.enterLoop fn tmps params assign body around):=by
 unfold Instr.enterLoop
 extract_lets jp
 have hjp:∀x:Nat × List Deferred,x.2.all o6=true→Calm P (fun r=>r.2.all o6=true) (jp x):=by
  rintro⟨d,m⟩ hm;refine aP (kX ?_) fun _=>hm;simp[fL,xj,ha,hb]
 clear_value jp
 split
 ·exact ep (lx _) fun _ _=>hjp _ rfl
 ·exact aP (kX rfl) fun _=>hjp _ rfl
theorem Cn(l):Calm P Any (Instr.beginRound l):=by
 unfold Instr.beginRound;refine ep (lx l) fun r hr=>aP (iC hr) fun _=>?_;split<;>first|exact cC|exact ij _
theorem FP(l jump)(hj:jump.all dP=true):Calm P Any (Instr.endRound l jump):=by
 unfold Instr.endRound;refine ep (lx l) fun r hr=>aP (iC ?_) fun _=>cC;simp only[xj,aC] at hr;simp[fL,xj,hj,hr.1.2,hr.2]
theorem I5(l):Calm P (fun j:Option Code=>j.all dP=true) (Instr.endLoop l):=by
 unfold Instr.endLoop;refine ep (lx l) fun r hr=>?_
 have hp:r.pending.all dP=true:=by
  simp only[xj,aC] at hr;exact hr.1.1
 dsimp only;split
 ·exact aP (eU _) fun _=>aP (iC hr) fun _=>hp
 ·exact aP (iC hr) fun _=>hp
theorem zw(l d)(hd:o6 d=true):Calm P Any (Instr.deferInRound l d):=by
 unfold Instr.deferInRound;refine ep (lx l) fun r hr=>j0 (fun o ho=>?_) (mG rfl);split
 ·refine iC ?_;simp only[fL,dO,hd,Bool.true_and];exact ho
 ·exact ql
 ·exact bA
theorem zu(b):Calm P (fun ds:List Deferred=>ds.all o6=true) (Instr.takeDeferred b):=by
 unfold Instr.takeDeferred;refine j0 (fun o ho=>?_) (mG rfl);split
 ·exact aP (iC rfl) fun _=>ho
 ·exact bA
theorem zv(fn tmps):Calm P Any (results fn tmps):=by
 unfold results;refine aP (pN (fun r=>?_) _) fun _=>cC;split
 ·exact cC
 ·exact aP (mL ..) fun _=>tE ..
end
def dw(w:ar):Prop:=∀(b:Nat) (o:Obj),w.heap[b]?=some o→fL o=true∨o=.coro none
def AV(B:Nat)(e:fP):Prop:=
 (∃a,e.loc=.cell a∧a.block<B)∨(∃r,e.loc=.obj r∧r<B)∨e.loc=.output∨e.loc=.mark .noRoom∨∃f,e.loc=.mark (.extern f)
theorem AV.mono{B B':Nat}{e:fP}(h:AV B e)(hB:B≤B'):AV B' e:=by
 rcases h with⟨a,h1,h2⟩|⟨r,h1,h2⟩|h|h|h
 ·exact .inl ⟨a,h1,by omega⟩
 ·exact .inr (.inl ⟨r,h1,by omega⟩)
 ·exact .inr (.inr (.inl h))
 ·exact .inr (.inr (.inr (.inl h)))
 ·exact .inr (.inr (.inr (.inr h)))
theorem OU{w:ar}{a:cU}{v:aj}(h:w.cell? a=some v):a.block<w.heap.size:=by
 unfold World.cell? at h;rcases Nat.lt_or_ge a.block w.heap.size with hl|hl
 ·exact hl
 ·rw[fg hl] at h;cases h
theorem ey{w:ar}{r:Nat}{o:Obj}(h:w.heap[r]?=some o):r<w.heap.size:=(ak.1 h).1
theorem Dc{p:aI}{w:ar}{at_:cU}{u:aX}{k:cU}{b:Bool}{x}(h:w.seen p at_ u k b=.ok x):at_.block<w.heap.size:=by
 unfold World.seen at h;rcases Nat.lt_or_ge at_.block w.heap.size with hl|hl
 ·exact hl
 ·simp only[fg hl,Bind.bind,Except.bind,eE,Except.pure,throw,throwThe,MonadExceptOf.throw] at h
  repeat' (first|(split at h)|(cases h;done))
theorem KP{p:aI}{w:ar}{a:cU}{b:Bool}{v:aj}{l:List cU}(h:w.farLoad p a b=.ok (v,l)):∀x∈l,x.block<w.heap.size:=by
 unfold World.farLoad at h;split at h
 ·rename_i at_ u _;unfold World.viewLoad at h;generalize hs:w.seen p at_ u a b=s at h;cases s with
  |error e=>simp only[Bind.bind,Except.bind] at h;cases h
  |ok s=>
   have hb:=Dc hs;obtain⟨c,e,fz,first,like,cells⟩:=s;simp only[Bind.bind,Except.bind,eE,Except.pure] at h;generalize like.ofBytes _=o at h;cases o with
   |none=>cases h
   |some v'=>
    simp only at h;cases h;intro x hx;obtain⟨y,_,rfl⟩:=List.mem_map.1 hx;exact hb
 ·cases h
theorem IU{p:aI}{w w':ar}{a:cU}{v:aj}{b:Bool}{l:List cU}(h:w.farStore p a v b=.ok (w',l)) :
  (∀x∈l,x.block<w.heap.size)∧w'.heap.size=w.heap.size∧w'.tape=w.tape∧w'.drawn=w.drawn∧(dw w→dw w'):=by
 unfold World.farStore at h;split at h
 ·rename_i at_ u _;unfold World.viewStore at h;generalize hs:w.seen p at_ u a b=s at h;cases s with
  |error e=>by_cases ht:tight p p.depth u<;>simp only[ht] at h<;>cases h
  |ok s=>
   have hb:=Dc hs;obtain⟨c,e,fz,first,like,cells⟩:=s
   by_cases ht:tight p p.depth u
   ·simp only[ht,Bind.bind,Except.bind,eE,Except.pure] at h;simp only[Cw,bu,if_false] at h;cases hv:v.bytes? with
    |none=>rw[hv] at h;cases h
    |some bytes=>
     rw[hv] at h;simp only[] at h;split at h
     all_goals
      rename_i r hr;split at hr
      ·cases hr<;>cases h
      ·generalize (List.foldlM _ c cells:Except String (Array aj))=r' at hr;cases r'<;>cases hr<;>cases h<;>refine⟨fun x hx=>?_,by simp,rfl,rfl,fun hk b o ho=>?_⟩
       all_goals first
        |(obtain⟨y,_,rfl⟩:=List.mem_map.1 hx;exact hb)
        |(by_cases e1:at_.block=b
          ·subst e1;simp only[Array.getElem?_setIfInBounds_self_of_lt hb,Option.some.injEq] at ho;subst ho;exact .inl rfl
          ·simp only[aA e1] at ho
           exact hk _ _ ho)
   ·simp only[ht] at h;cases h
 ·cases h
class uf where
 κ:Nat→Option Obj
structure jc[K:uf](lw w:ar):Prop where
 size:lw.heap.size=w.heap.size
 os:lw.os=w.os
 out:lw.output=w.output
 at_:∀b:Nat,lw.heap[b]?=w.heap[b]?∨(lw.heap[b]?=some (.coro none)∧∃o,w.heap[b]?=some o∧fL o=false)
 old:∀b x,K.κ b=some x→b<lw.heap.size
 kept:∀b x,K.κ b=some x→lw.heap[b]?=some (.coro none)→w.heap[b]?=some x
theorem jP{o:Obj}(h:fL o=false):(∀c t f,o≠.cells c t f)∧(∀c t,o≠.pending c t)∧(∀a t,o≠.view a t)∧o.isChan=false:=by
 cases o<;>simp_all [fL,Obj.isChan]
section
variable[uf]{lw w:ar}(V:jc lw w)
include V
theorem rO(τ d):jc lw (dr w τ d):=⟨V.size,V.os,V.out,V.at_,V.old,V.kept⟩
theorem vx(a:cU):w.cell? a=lw.cell? a:=by
 unfold World.cell?;rcases V.at_ a.block with h|⟨h1,o,h2,h3⟩
 ·rw[h]
 ·have:=(jP h3).1;rw[h1,h2];cases o<;>simp_all
theorem LU(r:Nat):w.shape? r=lw.shape? r:=by
 unfold World.shape?;rcases V.at_ r with h|⟨h1,o,h2,h3⟩
 ·rw[h]
 ·have:=(jP h3).1;rw[h1,h2];cases o<;>simp_all
theorem uD(a:cU):w.frozen? a=lw.frozen? a:=by
 unfold World.frozen?;rcases V.at_ a.block with h|⟨h1,o,h2,h3⟩
 ·rw[h]
 ·have:=(jP h3).1;rw[h1,h2];cases o<;>simp_all
theorem F6(p:aI)(x u k b):w.seen p x u k b=lw.seen p x u k b:=by
 unfold World.seen;rcases V.at_ x.block with h|⟨h1,o,h2,h3⟩
 ·rw[h]
 ·have:=(jP h3).1;rw[h1,h2];cases o<;>first|rfl|(exact absurd rfl (this _ _ _))
theorem Pd(p:aI)(a b):w.farLoad p a b=lw.farLoad p a b:=by
 unfold World.farLoad World.noCell World.viewLoad;simp only[F6 V];rcases V.at_ a.block with h|⟨h1,o,h2,h3⟩
 ·rw[h]
 ·obtain⟨h4,h5,h6,_⟩:=jP h3;rw[h1,h2];cases o<;>first|rfl|(exact absurd rfl (h5 _ _))|(exact absurd rfl (h6 _ _))
theorem Rv(o:Obj):jc { lw with heap:=lw.heap.push o } { w with heap:=w.heap.push o }:=by
 refine⟨by simp[V.size],V.os,V.out,fun b=>?_,fun b x h=>by have:=V.old b x h;simp;omega,fun b x h=>?_⟩
 ·simp only[kN,V.size];split
  ·exact .inl rfl
  ·exact V.at_ b
 ·have h1:=V.old b x h;have h2:=V.size;simp only[kN];rw[if_neg (by omega),if_neg (by omega)];exact V.kept b x h
theorem yi(r:Nat)(o:Obj)(hk:fL o=true):jc { lw with heap:=lw.heap.setIfInBounds r o } { w with heap:=w.heap.setIfInBounds r o }:=by
 refine⟨by simp[V.size],V.os,V.out,fun b=>?_,fun b x h=>by simpa using V.old b x h,fun b x h=>?_⟩
 ·by_cases e:r=b
  ·subst e;left;simp only[bw,if_true,V.size]
  ·simp only[aA e];exact V.at_ b
 ·by_cases e:r=b
  ·subst e;have h1:=V.old r x h;simp only[bw,if_true];rw[if_pos h1];intro h2;cases h2;cases hk
  ·simp only[aA e];exact V.kept b x h
theorem A8(r:Nat)(f:Obj→Obj)(hf:∀o,(∀c t z,o≠.cells c t z)→f o=o)(hf2:∀o,f o=.coro none→o=.coro none):jc { lw with heap:=lw.heap.modify r f } { w with heap:=w.heap.modify r f }:=by
 refine⟨by simp[V.size],V.os,V.out,fun b=>?_,fun b x h=>by simpa using V.old b x h,fun b x h=>?_⟩
 ·simp only[oY];split
  ·rename_i e;subst e;rcases V.at_ r with h|⟨h1,o,h2,h3⟩
   ·rw[h];exact .inl rfl
   ·right;refine⟨by rw[h1];simp only[dH];rw[hf];intro c t z;exact nofun,o,by rw[h2];simp only[dH];rw[hf _ (jP h3).1],h3⟩
  ·exact V.at_ b
 ·simp only[oY];split
  ·rename_i e;subst e;intro h1;obtain⟨o,h2,h3⟩:=eu.1 h1;obtain rfl:=hf2 o h3;have h4:=V.kept r x h h2;rcases V.at_ r with h5|⟨_,o,h5,h6⟩
   ·rw[h2,h4] at h5;cases h5;rw[h4];simp only[dH];rw[h3]
   ·rw[h4] at h5;cases h5;rw[h4];simp only[dH];rw[hf _ (jP h6).1]
  ·exact V.kept b x h
theorem JC(a:cU)(n:Nat):jc (lw.freeze a n) (w.freeze a n):=by
 unfold World.freeze;split
 ·exact V
 ·exact A8 V _ _ (fun o h=>by cases o<;>first|rfl|exact absurd rfl (h _ _ _)) fun o h=>by cases o<;>first|exact h|cases h
theorem Hc(a:cU)(v:aj):jc (lw.setCell a v) (w.setCell a v):=by
 unfold j4;exact A8 V _ _ (fun o h=>by cases o<;>first|rfl|exact absurd rfl (h _ _ _)) fun o h=>by cases o<;>first|exact h|cases h
end
theorem MT{w:ar}(h:dw w){o:Obj}(ho:fL o=true):dw { w with heap:=w.heap.push o }:=fun b x hx=>by
 simp only[kN] at hx;split at hx
 ·cases hx;exact .inl ho
 ·exact h b x hx
theorem xw{w:ar}(h:dw w){r:Nat}{o:Obj}(ho:fL o=true):dw { w with heap:=w.heap.setIfInBounds r o }:=fun b x hx=>by
 by_cases e:r=b
 ·subst e;simp only[bw,if_true] at hx;split at hx
  ·cases hx;exact .inl ho
  ·cases hx
 ·simp only[aA e] at hx;exact h b x hx
theorem wL{w:ar}(h:dw w){r:Nat}{f:Obj→Obj}(hf:∀o,fL o=true→fL (f o)=true)(hk:f (.coro none)=.coro none):dw { w with heap:=w.heap.modify r f }:=fun b x hx=>by
 simp only[oY] at hx;split at hx
 ·rename_i e;subst e;obtain⟨y,hy,rfl⟩:=eu.1 hx;rcases h _ _ hy with h'|rfl
  ·exact .inl (hf _ h')
  ·exact .inr hk
 ·exact h b x hx
theorem Fz{w:ar}(h:dw w)(a:cU)(n:Nat):dw (w.freeze a n):=by
 unfold World.freeze;split
 ·exact h
 ·exact wL h (fun o ho=>by cases o<;>first|exact ho|rfl) rfl
theorem Ea{w:ar}(h:dw w)(a:cU)(v:aj):dw (w.setCell a v):=by
 unfold j4;exact wL h (fun o ho=>by cases o<;>first|exact ho|rfl) rfl
def Ac{α:Type}:Except Halt α→ar→Result α
 |.ok a,w=>.ok a w
 |.error h,w=>.halt h w
def OkR{α:Type}(Q:α→Prop):Except Halt α→Prop
 |.ok a=>Q a
 |.error h=>h≠.blocked∧h≠.waiting
structure OZ[uf](P:aI){α:Type}(Q:α→Prop)(s:gZ α)(lw w ek w':ar)(k:Nat)(r:Except Halt α)(new:Array fP):Prop where
 tape:ek.tape=lw.tape
 drawn:ek.drawn=lw.drawn+k
 grows:lw.heap.size≤ek.heap.size
 ok:dw ek
 evs:∀e∈new,AV ek.heap.size e
 sK:jc ek w'
 res:OkR Q r
 lone:∀es,s.runT P lw es=(Ac r ek,es++new)
 many:∀τ d,Agree k lw.tape lw.drawn τ d→∀es,s.runT P (dr w τ d) es=(Ac r (dr w' τ (d+k)),es++new)
def WH(P:aI){α:Type}(s:gZ α)(lw:ar):Prop:=∃why ek,∀es,∃es',s.runT P lw es=(.halt (.stuck why) ek,es')
theorem JE{c:Sys}(h:Jl c)(w:ar):∃r,(Kernel.perform c w.os=.done (r,w.os))∧w.sys c=(r,w):=by
 obtain⟨r,h1,h2⟩:=h w.os;refine⟨r,h1,?_⟩;unfold World.sys;rw[h1];cases r<;>first|rfl|exact absurd rfl h2
section
variable{P:aI}{α:Type}{Q:α→Prop}
theorem Nz{k:Nat}{τ τ':Nat→dA→Nat}{d d':Nat}(h:Agree (k+1) τ d τ' d'):Agree k τ (d+1) τ' (d'+1):=fun i hi=>by
 have:=h (i+1) (by omega);rwa [show d+(i+1)=d+1+i by omega,show d'+(i+1)=d'+1+i by omega] at this
theorem OZ.cons[uf]{s t:gZ α}{lw w mX w₁ ek w':ar}{k:Nat}{r:Except Halt α}{new:Array fP}(pre:Array fP)
  (h:OZ P Q t mX w₁ ek w' k r new) (ht:mX.tape=lw.tape) (hd:mX.drawn=lw.drawn) (hs:lw.heap.size≤mX.heap.size) (he:∀e∈pre,AV mX.heap.size e)
  (hl:∀es,s.runT P lw es=t.runT P mX (es++pre)) (hm:∀τ d es,s.runT P (dr w τ d) es=t.runT P (dr w₁ τ d) (es++pre)) :
  OZ P Q s lw w ek w' k r (pre++new) where
 tape:=h.tape.trans ht
 drawn:=by rw[h.drawn,hd]
 grows:=aN hs h.grows
 ok:=h.ok
 evs e hx:=by
  rcases F2.1 hx with hx|hx
  ·exact(he e hx).mono h.grows
  ·exact h.evs e hx
 sK:=h.sK
 res:=h.res
 lone es:=by rw[hl,h.lone,Array.append_assoc]
 many τ d ha es:=by rw[hm,h.many τ d (by rwa [ht,hd]),Array.append_assoc]
theorem WH.cons{s t:gZ α}{lw mX:ar}(pre:Array fP)(h:WH P t mX)(hl:∀es,s.runT P lw es=t.runT P mX (es++pre)):WH P s lw:=by
 obtain⟨why,ek,h⟩:=h;exact⟨why,ek,fun es=>by rw[hl];exact h _⟩
theorem OZ.halted[uf]{lw w:ar}{h:Halt}{s:gZ α}(cS:dw lw)(V:jc lw w)(hh:h≠.blocked∧h≠.waiting)
  (hl:∀es,s.runT P lw es=(.halt h lw,es)) (hm:∀τ d es,s.runT P (dr w τ d) es=(.halt h (dr w τ d),es)):OZ P Q s lw w lw w 0 (.error h) #[] where
 tape:=rfl
 drawn:=rfl
 grows:=ax _
 ok:=cS
 evs:=by simp
 sK:=V
 res:=hh
 lone es:=by rw[hl];simp only[dS];rfl
 many τ d _ es:=by rw[hm];simp only[dS];rfl
end
section
variable{P:aI}{α:Type}{Q:α→Prop}
theorem tj{B:Nat}{e:fP}(h:AV B e):∀x∈#[e],AV B x:=fun x hx=>by
 have:x=e:=by simpa using hx
 rw[this];exact h
theorem GD{B:Nat}{l:List cU}{wr s:Bool}(h:∀x∈l,x.block<B):∀e∈(l.toArray.map (fun a=>(⟨.cell a,wr,s⟩:fP))),AV B e:=fun e he=>by
 obtain⟨a,ha,rfl⟩:=Array.mem_map.1 he;exact .inl ⟨a,rfl,h a (by simpa using ha)⟩
theorem kS(m:Mode)(a:cU)(v:aj)(k:gZ α)(h1:∀x,v≠.agg x)(h2:∀x,v≠.tuple x)(w:ar)(es:Array fP):(Sem.store m a v k).runT P w es =
  match w.cell? a with
  |some _=>
   if w.frozen? a then(.halt (.unsupported (.unsafePointer "a write to bytes that a string shares")) w,es)
   else k.runT P (w.setCell a v) (es.push ⟨.cell a,true,m == .atomic⟩)
  |none=>match w.farStore P a v (m == .atomic) with
   |.ok (w,sN)=>k.runT P w (es++sN.toArray.map (⟨.cell ·,true,m == .atomic⟩))
   |.error h=>(.halt h w,es):=by
 cases v<;>first|rfl|exact absurd rfl (h1 _)|exact absurd rfl (h2 _)
theorem DK{s:String}:Halt.stuck s≠.blocked∧Halt.stuck s≠.waiting:=by constructor<;>simp
theorem H7{u:Unsupported}:Halt.unsupported u≠.blocked∧Halt.unsupported u≠.waiting:=by constructor<;>simp
def Twin(x:Nat)(W W':ar)(r r':Except String (ar × List cU)):Prop:=
 ∃r0:Except String (Obj × List cU),r=(r0.map fun y=>({ W with heap:=W.heap.setIfInBounds x y.1 },y.2))∧r'=(r0.map fun y=>({ W' with heap:=W'.heap.setIfInBounds x y.1 },y.2))∧∀y,r0=.ok y→fL y.1=true
theorem CY(p:aI)(x:cU)(u:aX)(k:cU)(v:aj)(b:Bool)(W W':ar)(h:W'.seen p x u k b=W.seen p x u k b) :
  Twin x.block W W' (W.viewStore p x u k v b) (W'.viewStore p x u k v b):=by
 unfold World.viewStore;rw[h];generalize W.seen p x u k b=s
 by_cases ht:tight p p.depth u=true
 ·simp only[ht,Cw,bu,if_false];cases s with
  |error e=>exact⟨.error e,rfl,rfl,fun _ h=>by cases h⟩
  |ok s=>
   obtain⟨c,e,fz,first,like,cells⟩:=s;cases hv:v.bytes? with
   |none=>exact⟨.error _,rfl,rfl,fun _ h=>by cases h⟩
   |some bytes=>
    by_cases hl:some bytes.length≠like.bytes?.map (·.length)
    ·simp only[Bind.bind,Except.bind,eE,Except.pure];rw[if_pos hl,if_pos hl];exact⟨.error _,rfl,rfl,fun _ h=>by cases h⟩
    ·simp only[Bind.bind,Except.bind,eE,Except.pure];rw[if_neg hl,if_neg hl];generalize (List.foldlM _ c cells:Except String (Array aj))=r;cases r with
     |error e=>exact⟨.error e,rfl,rfl,fun _ h=>by cases h⟩
     |ok c'=>exact⟨.ok (.cells c' e fz,_),rfl,rfl,fun _ h=>by cases h;rfl⟩
 ·simp only[ht];exact⟨.error _,rfl,rfl,fun _ h=>by cases h⟩
theorem FE[uf]{lw w:ar}(V:jc lw w)(p:aI)(a:cU)(v:aj)(b:Bool) :
  (∀e,lw.farStore p a v b=.error e→w.farStore p a v b=.error e)∧(∀ek l,lw.farStore p a v b=.ok (ek,l)→∃w',w.farStore p a v b=.ok (w',l)∧jc ek w'):=by
 unfold World.farStore World.noCell;rcases V.at_ a.block with h|⟨h1,o,h2,h3⟩
 ·rw[h];split
  ·rename_i at_ u _;obtain⟨r,hr1,hr2,hr3⟩:=CY p at_ u a v b lw w (F6 V ..);rw[hr1,hr2];cases r with
   |error e=>exact⟨fun _ h=>h,fun _ _ h=>by cases h⟩
   |ok y=>exact⟨fun _ h=>by(cases h),fun ek l hl=>by cases hl;exact⟨_,rfl,yi V _ _ (hr3 _ rfl)⟩⟩
  ·exact⟨fun e he=>he,fun ek l hl=>by cases hl⟩
 ·obtain⟨h4,h5,h6,_⟩:=jP h3;rw[h1,h2];refine⟨fun e he=>?_,fun ek l hl=>by cases hl⟩;simp only at he;cases o<;>first|exact he|(exact absurd rfl (h5 _ _))|(exact absurd rfl (h6 _ _))
theorem KO{w:ar}{p:aI}{a:cU}{what:String}:w.noCell a what≠.blocked∧w.noCell a what≠.waiting:=by
 unfold World.noCell;split<;>first|exact DK|exact H7
theorem KQ{w:ar}{p:aI}{a:cU}{b:Bool}{e:Halt}(h:w.farLoad p a b=.error e):e≠.blocked∧e≠.waiting:=by
 unfold World.farLoad at h;split at h
 ·split at h
  ·cases h
  ·cases h;exact H7
 ·cases h;exact KO (p:=p)
theorem IV{w:ar}{p:aI}{a:cU}{v:aj}{b:Bool}{e:Halt}(h:w.farStore p a v b=.error e):e≠.blocked∧e≠.waiting:=by
 unfold World.farStore at h;split at h
 ·split at h
  ·cases h
  ·cases h;exact H7
 ·cases h;exact KO (p:=p)
theorem vM[uf]{s:gZ α}(hs:Calm P Q s){lw w:ar}(cS:dw lw)(V:jc lw w):WH P s lw∨∃ek w' k r new,OZ P Q s lw w ek w' k r new:=by
 induction s generalizing lw w with
 |pure a=>exact .inr ⟨lw,w,0,.ok a,#[],rfl,rfl,ax _,cS,by simp,V,hs,fun es=>by simp only[dS];rfl,fun τ d _ es=>by simp only[dS];rfl⟩
 |load m a k ih=>
  cases hc:lw.cell? a with
  |some v=>
   have hw:w.cell? a=some v:=(vx V a).trans hc;have hl:∀es,(Sem.load m a k).runT P lw es=(k v).runT P lw (es++#[⟨.cell a,false,m == .atomic⟩]):=fun es=>by rw[dz,hc];simp
   rcases ih v (hs v) cS V with h|⟨ek,w',n,r,new,h⟩
   ·exact .inl (h.cons _ hl)
   ·exact .inr ⟨_,_,_,_,_,h.cons _ rfl rfl (ax _) (tj (.inl ⟨a,rfl,OU hc⟩)) hl fun τ d es=>by rw[dz,oD,hw];simp⟩
  |none=>
   have hw:w.cell? a=none:=(vx V a).trans hc;have hf:=Pd V P a (m == .atomic);cases hx:lw.farLoad P a (m == .atomic) with
   |ok x=>
    obtain⟨v,l⟩:=x;rw[hx] at hf;have hl:∀es,(Sem.load m a k).runT P lw es=(k v).runT P lw (es++l.toArray.map (⟨.cell ·,false,m == .atomic⟩)):=fun es=>by rw[dz,hc];simp only[hx]
    rcases ih v (hs v) cS V with h|⟨ek,w',n,r,new,h⟩
    ·exact .inl (h.cons _ hl)
    ·exact .inr ⟨_,_,_,_,_,h.cons _ rfl rfl (ax _) (GD (KP hx)) hl fun τ d es=>by rw[dz,oD,hw];simp only[uY,hf]⟩
   |error e=>
    rw[hx] at hf;exact .inr ⟨_,_,_,_,_,OZ.halted cS V (KQ hx) (fun es=>by rw[dz,hc];simp only[hx]) fun τ d es=>by rw[dz,oD,hw];simp only[uY,hf]⟩
 |store m a v k ih=>
  by_cases h1:∃x,v=.agg x
  ·obtain⟨x,rfl⟩:=h1;exact .inr ⟨_,_,_,_,_,OZ.halted cS V DK (fun es=>by rw[dz]) fun τ d es=>by rw[dz]⟩
  by_cases h2:∃x,v=.tuple x
  ·obtain⟨x,rfl⟩:=h2;exact .inr ⟨_,_,_,_,_,OZ.halted cS V DK (fun es=>by rw[dz]) fun τ d es=>by rw[dz]⟩
  have h1':∀x,v≠.agg x:=fun x e=>h1 ⟨x,e⟩;have h2':∀x,v≠.tuple x:=fun x e=>h2 ⟨x,e⟩;cases hc:lw.cell? a with
  |some v0=>
   have hw:w.cell? a=some v0:=(vx V a).trans hc
   by_cases hz:lw.frozen? a=true
   ·have hz':w.frozen? a=true:=(uD V a).trans hz
    exact .inr ⟨_,_,_,_,_,OZ.halted (h:=.unsupported (.unsafePointer "a write to bytes that a string shares")) cS V H7 (fun es=>by rw[kS _ _ _ _ h1' h2',hc];simp only[hz,if_true]) fun τ d es=>by
     rw[kS _ _ _ _ h1' h2',oD,hw];simp only[xC,hz',if_true]⟩
   ·have hz1:lw.frozen? a=false:=by simpa using hz
    have hz':w.frozen? a=false:=(uD V a).trans hz1
    have hl:∀es,(Sem.store m a v k).runT P lw es=k.runT P (lw.setCell a v) (es++#[⟨.cell a,true,m == .atomic⟩]):=fun es=>by
     rw[kS _ _ _ _ h1' h2',hc];simp[hz1]
    have hsz:(lw.setCell a v).heap.size=lw.heap.size:=by unfold j4;simp
    rcases ih hs (Ea cS a v) (Hc V a v) with h|⟨ek,w',n,r,new,h⟩
    ·exact .inl (h.cons _ hl)
    ·refine .inr ⟨_,_,_,_,_,h.cons _ rfl rfl (by omega) (tj (.inl ⟨a,rfl,by rw[hsz];exact OU hc⟩)) hl fun τ d es=>?_⟩;rw[kS _ _ _ _ h1' h2',oD,hw];simp only[xC,hz',bu,if_false,←Array.push_eq_append];rfl
  |none=>
   have hw:w.cell? a=none:=(vx V a).trans hc;obtain⟨hf1,hf2⟩:=FE V P a v (m == .atomic);cases hx:lw.farStore P a v (m == .atomic) with
   |ok x=>
    obtain⟨mX,l⟩:=x;obtain⟨w₁,SU,V₁⟩:=hf2 _ _ hx;obtain⟨g1,g2,g3,g4,g5⟩:=IU hx
    have hl:∀es,(Sem.store m a v k).runT P lw es=k.runT P mX (es++l.toArray.map (⟨.cell ·,true,m == .atomic⟩)):=fun es=>by
     rw[kS _ _ _ _ h1' h2',hc];simp only[hx]
    rcases ih hs (g5 cS) V₁ with h|⟨ek,w',n,r,new,h⟩
    ·exact .inl (h.cons _ hl)
    ·exact .inr ⟨_,_,_,_,_,h.cons _ g3 g4 (by omega) (GD (fun x hx=>by rw[g2];exact g1 x hx)) hl fun τ d es=>by
      rw[kS _ _ _ _ h1' h2',oD,hw];simp only[zf,SU]
      rfl⟩
   |error e=>
    have SU:=hf1 _ hx
    exact .inr ⟨_,_,_,_,_,OZ.halted cS V (IV hx) (fun es=>by rw[kS _ _ _ _ h1' h2',hc];simp only[hx]) fun τ d es=>by
     rw[kS _ _ _ _ h1' h2',oD,hw];simp only[zf,SU]
     rfl⟩
 |new o k ih=>
  have hl:∀es,(Sem.new o k).runT P lw es=(k lw.heap.size).runT P { lw with heap:=lw.heap.push o } (es++#[]):=fun es=>by rw[dz];simp
  rcases ih lw.heap.size (hs.2 _) (MT cS hs.1) (Rv V o) with h|⟨ek,w',n,r,new,h⟩
  ·exact .inl (h.cons _ hl)
  ·exact .inr ⟨_,_,_,_,_,h.cons _ rfl rfl (by simp) (by simp) hl fun τ d es=>by rw[dz];simp only[ot,←V.size,dS];rfl⟩
 |shape r k ih=>
  have hl:∀es,(Sem.shape r k).runT P lw es=(k (lw.shape? r)).runT P lw (es++#[]):=fun es=>by rw[dz];simp
  rcases ih (lw.shape? r) (hs _) cS V with h|⟨ek,w',n,r',new,h⟩
  ·exact .inl (h.cons _ hl)
  ·exact .inr ⟨_,_,_,_,_,h.cons _ rfl rfl (ax _) (by simp) hl fun τ d es=>by rw[dz];simp only[Pr,LU V,dS]⟩
 |freeze a n k ih=>
  have hl:∀es,(Sem.freeze a n k).runT P lw es=k.runT P (lw.freeze a n) (es++#[]):=fun es=>by rw[dz];simp
  have hz:(lw.freeze a n).heap.size=lw.heap.size∧(lw.freeze a n).tape=lw.tape∧(lw.freeze a n).drawn=lw.drawn:=by unfold World.freeze;split<;>simp
  rcases ih hs (Fz cS a n) (JC V a n) with h|⟨ek,w',n',r',new,h⟩
  ·exact .inl (h.cons _ hl)
  ·refine .inr ⟨_,_,_,_,_,h.cons _ hz.2.1 hz.2.2 (by omega) (by simp) hl fun τ d es=>?_⟩;rw[dz];simp only[dS];unfold World.freeze;split<;>rfl
 |frozen a k ih=>
  have hl:∀es,(Sem.frozen a k).runT P lw es=(k (lw.frozen? a)).runT P lw (es++#[]):=fun es=>by rw[dz];simp
  rcases ih (lw.frozen? a) (hs _) cS V with h|⟨ek,w',n,r',new,h⟩
  ·exact .inl (h.cons _ hl)
  ·exact .inr ⟨_,_,_,_,_,h.cons _ rfl rfl (ax _) (by simp) hl fun τ d es=>by rw[dz];simp only[xC,uD V,dS]⟩
 |getObj r k ih=>
  cases hc:lw.heap[r]? with
  |none=>exact .inl ⟨_,lw,fun es=>⟨_,by rw[dz];simp only[hc];rfl⟩⟩
  |some o=>
   by_cases hcell:∃c t f,o=.cells c t f
   ·obtain⟨c,t,f,rfl⟩:=hcell;exact .inl ⟨_,lw,fun es=>⟨_,by rw[dz];simp only[hc];rfl⟩⟩
   have vT:∀c t f,o≠.cells c t f:=fun c t f e=>hcell ⟨c,t,f,e⟩
   have hrun:∀(x:ar) (o':Obj),x.heap[r]?=some o'→(∀c t f,o'≠.cells c t f)→∀es,(Sem.getObj r k).runT P x es=(k o').runT P x (es++#[⟨.obj r,false,o'.isChan⟩]):=fun x o' hx hn es=>by
    rw[dz,hx];cases o'<;>first|exact absurd rfl (hn _ _ _)|(simp only[←Array.push_eq_append])
   have hev:AV lw.heap.size (⟨.obj r,false,o.isChan⟩:fP):=.inr (.inl ⟨r,rfl,ey hc⟩);have hl:=hrun lw o hc vT;rcases V.at_ r with hv|⟨h1,o',h2,h3⟩
   ·have hw:w.heap[r]?=some o:=hv.symm.trans hc
    have acp:Calm P Q (k o)∨E4 (k o):=by
     rcases cS r o hc with ho|rfl
     ·exact .inl (hs.1 o ho)
     ·exact hs.2.symm.imp (·.1) id
    rcases acp with hk|⟨why,hk⟩
    ·rcases ih o hk cS V with h|⟨ek,w',n,r',new,h⟩
     ·exact .inl (h.cons _ hl)
     ·exact .inr ⟨_,_,_,_,_,h.cons _ rfl rfl (ax _) (tj hev) hl fun τ d es=>hrun (dr w τ d) o hw vT es⟩
    ·exact .inl ⟨why,lw,fun es=>⟨_,by rw[hl,hk];rfl⟩⟩
   ·obtain rfl:o=.coro none:=Option.some.inj (hc.symm.trans h1);rcases hs.2 with⟨why,hk⟩|⟨hk,hk2⟩
    ·exact .inl ⟨why,lw,fun es=>⟨_,by rw[hl,hk];rfl⟩⟩
    ·rcases ih (.coro none) hk cS V with h|⟨ek,w',n,r',new,h⟩
     ·exact .inl (h.cons _ hl)
     ·refine .inr ⟨_,_,_,_,_,h.cons _ rfl rfl (ax _) (tj hev) hl fun τ d es=>?_⟩;rw[hrun (dr w τ d) o' h2 (jP h3).1 es,hk2 _ h3,(jP h3).2.2.2];rfl
 |setObj r o k ih=>
  cases hc:lw.heap[r]? with
  |none=>exact .inl ⟨_,lw,fun es=>⟨_,by rw[dz];simp only[hc];rfl⟩⟩
  |some o0=>
   by_cases hcell:∃c t f,o0=.cells c t f
   ·obtain⟨c,t,f,rfl⟩:=hcell;exact .inl ⟨_,lw,fun es=>⟨_,by rw[dz];simp only[hc];rfl⟩⟩
   have vT:∀c t f,o0≠.cells c t f:=fun c t f e=>hcell ⟨c,t,f,e⟩
   have hrun:∀(x:ar) (o':Obj),x.heap[r]?=some o'→(∀c t f,o'≠.cells c t f)→∀es,(Sem.setObj r o k).runT P x es=k.runT P { x with heap:=x.heap.setIfInBounds r o } (es++#[⟨.obj r,true,o.isChan⟩]):=fun x o' hx hn es=>by
    rw[dz,hx];cases o'<;>first|exact absurd rfl (hn _ _ _)|(simp only[←Array.push_eq_append])
   have hw:∃o',w.heap[r]?=some o'∧∀c t f,o'≠.cells c t f:=by
    rcases V.at_ r with hv|⟨h1,o',h2,h3⟩
    ·exact⟨o0,hv.symm.trans hc,vT⟩
    ·exact⟨o',h2,(jP h3).1⟩
   obtain⟨o',hw,hn'⟩:=hw;have hl:=hrun lw o0 hc vT;rcases ih hs.2 (xw cS hs.1) (yi V r o hs.1) with h|⟨ek,w',n,r',new,h⟩
   ·exact .inl (h.cons _ hl)
   ·exact .inr ⟨_,_,_,_,_,h.cons _ rfl rfl (by simp) (tj (.inr (.inl ⟨r,rfl,by simpa using ey hc⟩))) hl fun τ d es=>hrun (dr w τ d) o' hw hn' es⟩
 |choose q k ih=>
  by_cases hq:q.forced=true
  ·have hl:∀es,(Sem.choose q k).runT P lw es=(k 0).runT P lw (es++#[]):=fun es=>by rw[dz];simp[hq]
   rcases ih 0 (hs 0) cS V with h|⟨ek,w',n,r,new,h⟩
   ·exact .inl (h.cons _ hl)
   ·exact .inr ⟨_,_,_,_,_,h.cons _ rfl rfl (ax _) (by simp) hl fun τ d es=>by rw[dz];simp[hq]⟩
  ·have hl:∀es,(Sem.choose q k).runT P lw es=(k (q.cut (lw.tape lw.drawn q))).runT P { lw with drawn:=lw.drawn+1 } es:=fun es=>by rw[dz];simp[hq]
   have V':jc { lw with drawn:=lw.drawn+1 } w:=⟨V.size,V.os,V.out,V.at_,V.old,V.kept⟩
   rcases ih (q.cut (lw.tape lw.drawn q)) (hs _) (lw:={ lw with drawn:=lw.drawn+1 }) cS V' with⟨why,ek,h⟩|⟨ek,w',n,r,new,h⟩
   ·exact .inl ⟨why,ek,fun es=>by rw[hl];exact h es⟩
   ·refine .inr ⟨ek,w',n+1,r,new,h.tape,by rw[h.drawn];simp only[];omega,h.grows,h.ok,h.evs,h.sK,h.res,fun es=>by rw[hl,h.lone],fun τ d ha es=>?_⟩;have h0:lw.tape lw.drawn=τ d:=ha 0 (by omega);have:=h.many τ (d+1) (Nz ha) es;rw[dz];simp only[hq,bu,if_false,yJ,pH,←h0];rw[show d+(n+1)=d+1+n by omega];exact this
 |sys c k ih=>
  obtain⟨x,hx1,hx2⟩:=JE hs.1 lw;have hl:∀es,(Sem.sys c k).runT P lw es=(k x).runT P lw (es++#[⟨.output,true,false⟩]):=fun es=>by rw[dz,hx2];simp
  have hm:∀τ d es,(Sem.sys c k).runT P (dr w τ d) es=(k x).runT P (dr w τ d) (es++#[⟨.output,true,false⟩]):=fun τ d es=>by
   obtain⟨y,hy1,hy2⟩:=JE hs.1 (dr w τ d)
   have:y=x:=by
    simp only[Yi,←V.os] at hy1;rw[hx1] at hy1;cases hy1;rfl
   subst this;rw[dz,hy2];simp
  rcases ih x (hs.2 x) cS V with h|⟨ek,w',n,r,new,h⟩
  ·exact .inl (h.cons _ hl)
  ·exact .inr ⟨_,_,_,_,_,h.cons _ rfl rfl (ax _) (tj (.inr (.inr (.inl rfl)))) hl hm⟩
 |program k ih=>
  have hl:∀es,(Sem.program k).runT P lw es=(k P).runT P lw (es++#[]):=fun es=>by rw[dz];simp
  rcases ih P hs cS V with h|⟨ek,w',n,r,new,h⟩
  ·exact .inl (h.cons _ hl)
  ·exact .inr ⟨_,_,_,_,_,h.cons _ rfl rfl (ax _) (by simp) hl fun τ d es=>by rw[dz];simp⟩
 |mark m k ih=>
  have hl:∀(x:ar) es,(Sem.mark m k).runT P x es=k.runT P x (es++#[⟨.mark m,false,true⟩]):=fun x es=>by rw[dz];simp
  rcases ih hs.2 cS V with h|⟨ek,w',n,r,new,h⟩
  ·exact .inl (h.cons _ (hl lw))
  ·refine .inr ⟨_,_,_,_,_,h.cons _ rfl rfl (ax _) (tj ?_) (hl lw) fun τ d es=>hl _ es⟩;rcases hs.1 with rfl|⟨f,rfl⟩
   ·exact .inr (.inr (.inr (.inl rfl)))
   ·exact .inr (.inr (.inr (.inr ⟨f,rfl⟩)))
 |halt h=>exact .inr ⟨_,_,_,_,_,OZ.halted cS V hs (fun es=>by rw[dz]) fun τ d es=>by rw[dz]⟩
end
def iw:Item→Bool
 |.code c=>dP c
 |.inLoop c|.inScope c=>dP c
 |.inRegion ops _=>ops.all Aa
 |.inBlock _|.inRangeFunc _|.endRangeFunc _|.beginRound=>true
 |.call ..|.extern ..=>false
structure dx(fr:bL):Prop where
 todo:fr.todo.all iw=true
 defers:fr.defers.all o6=true
structure zN(g:aB):Prop where
 frame:dx g.frame
 callers:∀c∈g.callers,dx c
 status:g.status=.running∨g.status=.finished
structure Quiet(P:aI):Prop extends T9 P where
 ahead:P.follows .staticDataAhead=true
 steps:∀g,P.stepOf g=none
 enters:∀todo,NoEnter P todo
structure Base[uf](lw ek w':ar)(k:Nat)(es:Array fP):Prop where
 tape:ek.tape=lw.tape
 drawn:ek.drawn=lw.drawn+k
 grows:lw.heap.size≤ek.heap.size
 ok:dw ek
 evs:∀e∈es,AV ek.heap.size e
 sK:jc ek w'
def G6[uf](P:aI)(lw:ar)(s:GStep)(f:(Nat→dA→Nat)→Nat→GStep):Prop:=
 match s with
 |.ended ..=>True
 |.spawn ..=>True
 |.go g' ek es=>g'.dyingOn P∨(zN g'∧g'.dying=none∧∃w' k,Base lw ek w' k es∧∀τ d,Agree k lw.tape lw.drawn τ d→f τ d=.go g' (dr w' τ (d+k)) es)
 |.comm g' cs b sh ek es=>zN g'∧(g'.dying=none∧g'.status=.running)∧∃w' k,Base lw ek w' k es∧∀τ d,Agree k lw.tape lw.drawn τ d→f τ d=.comm g' cs b sh (dr w' τ (d+k)) es
 |_=>False
section frames
variable{fr:bL}
theorem dx.finish(h:dx fr)(v:aj):dx (fr.finish v):=by
 obtain⟨ht,hd⟩:=h;unfold Frame.finish;split
 ·rename_i e;rw[e] at ht;simp only[dO,aC] at ht;refine⟨?_,hd⟩;simp only[dO,aC];exact ht
 ·rename_i e;rw[e] at ht;simp only[dO,aC] at ht;refine⟨?_,hd⟩;simp only[dO,aC];exact ht
 ·rename_i e;rw[e] at ht;simp only[dO,aC] at ht;exact⟨ht.2,hd⟩
 ·rename_i e;rw[e] at ht;simp only[dO,aC] at ht;exact absurd ht.1 (by simp[iw])
 ·rename_i e;rw[e] at ht;simp only[dO,aC] at ht;exact absurd ht.1 (by simp[iw])
 ·exact⟨ht,hd⟩
theorem dx.raise(h:dx fr)(c:List PanicEntry):dx (fr.raise c):=by
 unfold Frame.raise;split<;>exact⟨h.todo,h.defers⟩
theorem dx.mode(h:dx fr)(m:FrameMode):dx { fr with mode:=m }:=⟨h.todo,h.defers⟩
theorem nW{P:aI}(T:Quiet P)(f:dR)(args:Array aj)(kind:CallKind):dx (dZ P f args kind):=by
 refine⟨?_,rfl⟩;unfold dZ;simp only[dO,List.all_nil,Bool.and_true,iw];cases hf:P.funcs[f]? with
 |none=>rfl
 |some fn=>
  cases hb:fn.body with
  |none=>simp[hb,dP]
  |some c=>simpa [hb] using T.body f fn c hf hb
theorem wN{l:Nat}{f:dR}{tmps:Array aj}{a b:Code}(ha:dP a=true)(hb:dP b=true)(kind:CallKind):dx (Frame.round l f tmps a b kind):=by
 refine⟨?_,rfl⟩;simp[Frame.round,iw,ha,hb]
theorem Ar{id:Nat}:∀ {k k':List Item},k.all iw=true→exitTo id k=some k'→k'.all iw=true
 |[],k',_,h=>by cases h
 |x::k,k',hk,h=>by
  simp only[dO,aC] at hk;unfold exitTo at h;split at h
  ·rename_i e;cases e;split at h
   ·cases h;exact hk.2
   ·exact Ar hk.2 h
  ·rename_i e;cases e;exact Ar hk.2 h
  ·rename_i e;cases e
theorem td:∀ {c:Code} {l:Nat} {c':Code},dP c=true→zO c l=some c'→dP c'=true
 |.seq a b,l,c',hc,h=>by
  simp only[dP,aC] at hc;unfold zO at h;split at h
  ·rename_i rest hr;cases h;simp only[dP,aC];exact⟨td hc.1 hr,hc.2⟩
  ·exact td hc.2 h
 |.label l',l,c',hc,h=>by
  unfold zO at h;split at h
  ·cases h;rfl
  ·cases h
 |.region ..,l,c',hc,h=>by unfold zO at h;cases h
 |.cond ..,l,c',hc,h=>by unfold zO at h;cases h
 |.block ..,l,c',hc,h=>by unfold zO at h;cases h
 |.loop ..,l,c',hc,h=>by unfold zO at h;cases h
 |.rangeFunc ..,l,c',hc,h=>by unfold zO at h;cases h
 |.scope ..,l,c',hc,h=>by unfold zO at h;cases h
 |.exit ..,l,c',hc,h=>by unfold zO at h;cases h
 |.goto ..,l,c',hc,h=>by unfold zO at h;cases h
 |.ret,l,c',hc,h=>by unfold zO at h;cases h
 |.skip,l,c',hc,h=>by unfold zO at h;cases h
 |.refuse ..,l,c',hc,h=>by unfold zO at h;cases h
theorem Am{l:Nat}:∀ {k k':List Item},k.all iw=true→gotoIn l k=some k'→k'.all iw=true
 |[],k',_,h=>by cases h
 |x::k,k',hk,h=>by
  have hk0:=hk;simp only[dO,aC] at hk;unfold gotoIn at h;split at h
  ·rename_i body k0 e;cases e;split at h
   ·rename_i rest hr;cases h;simp only[dO,aC];exact⟨td hk.1 hr,hk⟩
   ·exact Am hk.2 h
  ·rename_i e;cases e;exact Am hk.2 h
  ·rename_i e;cases e
theorem lQ:∀ {cs:List bL} {fr:bL} {v:aj} {cs':List bL},(∀c∈cs,dx c)→tryRecover fr cs=some (v,cs')→∀c∈cs',dx c
 |[],fr,v,cs',h,e=>by
  unfold tryRecover at e;split at e
  ·rename_i h1;cases h1
  ·rename_i h1;cases h1
  ·cases e
 |c0::rest,fr,v,cs',h,e=>by
  unfold tryRecover at e;split at e
  ·rename_i h1;cases h1;split at e
   ·cases e;intro c hc;rcases bR.1 hc with rfl|hc
    ·exact(h c0 (cR ..)).mode _
    ·exact h c (bI _ hc)
   ·cases e
  ·rename_i h1;cases h1;obtain⟨⟨v',r'⟩,hr,he⟩:=eu.1 e;cases he;intro c hc;rcases bR.1 hc with rfl|hc
   ·exact h c (cR ..)
   ·exact lQ (fun c hc=>h c (bI _ hc)) hr c hc
  ·cases e
theorem kF:∀ {cs:List bL} {l:Nat} {v:aj} {cs':List bL},(∀c∈cs,dx c)→tryRecoverLoop l cs=some (v,cs')→∀c∈cs',dx c
 |[],l,v,cs',h,e=>by cases e
 |c0::rest,l,v,cs',h,e=>by
  unfold tryRecoverLoop at e;obtain⟨⟨v',r'⟩,hr,he⟩:=eu.1 e;cases he;have yX:∀c∈rest,dx c:=fun c hc=>h c (bI _ hc);intro c hc;rcases bR.1 hc with rfl|hc
  ·exact h c (cR ..)
  ·split at hr
   ·exact kF yX hr c hc
   ·split at hr
    ·exact lQ yX hr c hc
    ·exact kF yX hr c hc
   ·exact kF yX hr c hc
end frames
theorem mem_seen{p:aI}{fn:dR}{es:Array fP}{e:fP}(h:e∈seen p fn es):e∈es:=by
 unfold seen at h;revert h
 have:∀(l:List fP) (acc:Bool × Array fP),e∈(l.foldl (fun(x:Bool × Array fP) (e:fP)=>(match x with
   |(q,kept)=>match e.loc with
    |.mark (.extern f)=>((p.funcs[f]?).any (·.norace),kept)
    |_=>(q,if q && !e.sync then kept else kept.push e):Bool × Array fP)) acc).2→e∈acc.2∨e∈l:=by
  intro l
  induction l with
  |nil=>intro acc h;exact .inl h
  |cons x l ih=>
   intro acc h;rw[List.foldl_cons] at h;rcases ih _ h with h|h
   ·obtain⟨q,kept⟩:=acc;dsimp only at h;split at h
    ·exact .inl h
    ·dsimp only at h;split at h
     ·exact .inl h
     ·rcases Array.mem_push.1 h with h|rfl
      ·exact .inl h
      ·exact .inr (cR ..)
   ·exact .inr (bI _ h)
 intro h;dsimp only at h;rw[←Array.foldl_toList] at h;rcases this _ _ h with h|h
 ·simp at h
 ·simpa using h
section
variable{P:aI}{lw w:ar}
theorem GZ[uf](cS:dw lw)(V:jc lw w):Base lw lw w 0 #[]:=⟨rfl,rfl,ax _,cS,by simp,V⟩
theorem RB[uf](cS:dw lw)(V:jc lw w){g:aB}(hg:zN g)(hd:g.dying=none){f}(hf:∀τ d,f τ d=.go g (dr w τ d) #[]):G6 P lw (.go g lw #[]) f:=
 .inr ⟨hg,hd,w,0,GZ cS V,fun τ d _=>hf τ d⟩
theorem OZ.base[uf]{α:Type}{Q:α→Prop}{s:gZ α}{ek w':ar}{k:Nat}{r:Except Halt α}{new:Array fP}(h:OZ P Q s lw w ek w' k r new){es:Array fP}(hes:∀e∈es,e∈new):Base lw ek w' k es:=
 ⟨h.tape,h.drawn,h.grows,h.ok,fun e he=>h.evs e (hes e he),h.sK⟩
def kK(P:aI){α:Type}(K:Result α × Array fP→GStep)(r:Except Halt α):Prop:=∀x new,(∃o y es',K (Ac r x,new)=.ended o y es')∨(∃g y es',K (Ac r x,new)=.go g y es'∧g.dyingOn P)∨(∃g c y es',K (Ac r x,new)=.spawn g c y es')∨
   (∃g es',zN g∧g.dying=none∧(∀e∈es',e∈new)∧∀y,K (Ac r y,new)=.go g y es')∨
   (∃g cs b sh es',zN g∧(g.dying=none∧g.status=.running)∧(∀e∈es',e∈new)∧∀y,K (Ac r y,new)=.comm g cs b sh y es')
theorem kK.ended{α:Type}{K:Result α × Array fP→GStep}{r:Except Halt α}(h:∀x new,∃o y es',K (Ac r x,new)=.ended o y es'):kK P K r:=fun x new=>.inl (h x new)
theorem kK.Eo{α:Type}{K:Result α × Array fP→GStep}{r:Except Halt α}(h:∀x new,∃g y es',K (Ac r x,new)=.go g y es'∧g.dyingOn P):kK P K r:=fun x new=>.inr (.inl (h x new))
theorem kK.go{α:Type}{K:Result α × Array fP→GStep}{r:Except Halt α}{g:aB}(hg:zN g)(hd:g.dying=none)(es':Array fP→Array fP)(hes:∀new e,e∈es' new→e∈new)(h:∀y new,K (Ac r y,new)=.go g y (es' new)):kK P K r:=
 fun x new=>.inr (.inr (.inr (.inl ⟨g,es' new,hg,hd,hes new,fun y=>h y new⟩)))
theorem yn[uf]{α:Type}{Q:α→Prop}{s:gZ α}(hs:Calm P Q s)(cS:dw lw)(V:jc lw w)(F:ar→GStep)
  (h:∃K:Result α × Array fP→GStep,(∀y,F y=K (s.runT P y #[]))∧(∀why x es,∃o es',K (.halt (.stuck why) x,es)=.ended o x es')∧∀r,OkR Q r→kK P K r) :
  G6 P lw (F lw) (fun τ d=>F (dr w τ d)):=by
 obtain⟨K,hrun,OD,hK⟩:=h;simp only[hrun];rcases vM hs cS V with⟨why,ek,h⟩|⟨ek,w',k,r,new,h⟩
 ·obtain⟨es,he⟩:=h #[];rw[he];obtain⟨o,es',h'⟩:=OD why ek es;rw[h'];trivial
 ·have hl:=h.lone #[];rw[eL] at hl;rw[hl];have hm:∀τ d,Agree k lw.tape lw.drawn τ d→K (s.runT P (dr w τ d) #[])=K (Ac r (dr w' τ (d+k)),new):=fun τ d ha=>by rw[h.many τ d ha #[],eL]
  rcases hK r h.res ek new with⟨o,y,es',e⟩|⟨g,y,es',e,hd⟩|⟨g,c,y,es',e⟩|⟨g,es',hg,hd,hes,e⟩|⟨g,cs,b,sh,es',hg,hd,hes,e⟩
  ·rw[e];trivial
  ·rw[e];exact .inl hd
  ·rw[e];trivial
  ·rw[e ek];exact .inr ⟨hg,hd,w',k,h.base hes,fun τ d ha=>(hm τ d ha).trans (e _)⟩
  ·rw[e ek];exact⟨hg,hd,w',k,h.base hes,fun τ d ha=>(hm τ d ha).trans (e _)⟩
theorem zi(fr:bL)(ahead:List ByteArray)(m:String)(whole:Bool)(w:ar):∃g y es',dieOf fr ahead m whole w=.go g y es'∧g.dyingOn P:=⟨_,_,_,rfl,.inl rfl,_,rfl,rfl,NoEnter.nil P⟩
theorem Ck(fr:bL)(m:String)(w:ar):∃g y es',endThrow fr m w=.go g y es'∧g.dyingOn P:=zi _ _ _ _ _
theorem tX(fr:bL)(cs:List bL)(d:Option Dying)(m:String)(w:ar) :
  (∃o y es',endFatal P fr cs d m w=.ended o y es')∨∃g y es',endFatal P fr cs d m w=.go g y es'∧g.dyingOn P:=by
 unfold endFatal
 extract_lets
 repeat' (first|(split)|exact .inl ⟨_,_,_,rfl⟩|exact .inr (zi _ _ _ _ _))
theorem KW(T:Quiet P)(fr:bL)(cs:List bL)(d:Option Dying)(g:Nat)(w:ar):∃o es',early P fr cs d g w=.ended o w es':=by
 unfold early;simp only[T.ahead,T.steps,Cw,bu,if_false];exact⟨_,_,rfl⟩
theorem eQ{fr:bL}{cs:List bL}{d:Option Dying}{o}(h:dx fr)(hc:∀c∈cs,dx c):zN { frame:=fr,callers:=cs,status:=.running,dying:=d,offers:=o }:=⟨h,hc,.inl rfl⟩
theorem CQ{fr:bL}{cs:List bL}(h:dx fr)(hc:∀c∈cs,dx c):∀c∈fr::cs,dx c:=fun c hx=>by
 rcases bR.1 hx with rfl|hx
 ·exact h
 ·exact hc c hx
theorem Fu{c:Prop}[Decidable c]{es:Array fP}{e:fP}(h:e∈(if c then #[] else es)):e∈es:=by
 split at h
 ·simp at h
 ·exact h
theorem rW{es:Array fP}{p:aI}{fn:dR}{c:Prop}[Decidable c]{e:fP}(h:e∈seen p fn (if c then #[] else es)++#[]):e∈es:=by
 rw[dS] at h;exact Fu (mem_seen h)
theorem mem_row{es:Array fP}{p:aI}{fn:dR}{c:Prop}[Decidable c]:∀e,e∈seen p fn (if c then #[] else es)++#[]→e∈es:=fun e=>rW
theorem vQ[uf](T:Quiet P){fr:bL}{cs:List bL}(hfr:dx fr)(hcs:∀c∈cs,dx c){s:gZ Next}(hs:Calm P eD s)(cS:dw lw)(V:jc lw w) :
  G6 P lw (dX P true fr cs none s lw) (fun τ d=>dX P true fr cs none s (dr w τ d)):=by
 refine yn hs cS V (fun y=>dX P true fr cs none s y) ⟨?K,fun y=>?_,?_,?_⟩
 rotate_left
 ·unfold dX;simp only[if_true];generalize s.runT P y #[]=x;exact rfl
 ·intro why x es;exact⟨_,_,rfl⟩
 ·intro r hr;cases r with
  |ok n=>
   cases n with
   |value v=>exact kK.go (eQ (hfr.finish v) hcs) rfl _ (fun _=>mem_row) fun y new=>rfl
   |skip=>exact kK.go (eQ (hfr.finish undef) hcs) rfl _ (fun _=>mem_row) fun y new=>rfl
   |enter f args=>exact kK.go (eQ (nW T f args _) (CQ hfr hcs)) rfl _ (fun _=>mem_row) fun y new=>rfl
   |round l f tmps a b=>exact kK.go (eQ (wN hr.1 hr.2 _) (CQ hfr hcs)) rfl _ (fun _=>mem_row) fun y new=>rfl
   |defer d=>exact kK.go (eQ (dx.finish (fr:={ fr with defers:=d::fr.defers }) ⟨hfr.todo,by rw[dO,hfr.defers,Bool.and_true];exact hr⟩ undef) hcs) rfl _ (fun _=>mem_row) fun y new=>rfl
   |recover=>
    intro x new
    have key:∀X:Option (aj × List bL),(∀v cs',X=some (v,cs')→∀c∈cs',dx c)→∀es:Array fP,(∀e∈es++#[],e∈new)→
      ∃g es',zN g∧g.dying=none∧(∀e∈es',e∈new)∧∀y,A4 es (match X with
       |some (v,callers)=>GStep.go { frame:=fr.finish v,callers,status:=.running,dying:=none } y
       |none=>GStep.go { frame:=fr.finish .nilIface,callers:=cs,status:=.running,dying:=none } y)=.go g y es':=by
     intro X hX es hes;cases X with
     |none=>exact⟨_,_,eQ (hfr.finish .nilIface) hcs,rfl,hes,fun y=>rfl⟩
     |some z=>exact⟨_,_,eQ (hfr.finish z.1) (hX z.1 z.2 rfl),rfl,hes,fun y=>rfl⟩
    refine .inr (.inr (.inr (.inl ?_)));cases hro:fr.roundOf with
    |none=>
     simp only[Ac,hro];exact key (tryRecover fr cs) (fun v cs' e=>lQ hcs e) _ fun e=>rW
    |some l=>
     by_cases hf:P.follows .rangeFuncRecover=true
     ·simp only[Ac,hro,hf,if_true];exact key (tryRecover fr cs) (fun v cs' e=>lQ hcs e) _ fun e=>rW
     ·simp only[Ac,hro,hf,if_false];exact key (tryRecoverLoop l cs) (fun v cs' e=>kF hcs e) _ fun e=>rW
   |comm c b sh=>exact fun x new=>.inr (.inr (.inr (.inr ⟨_,_,_,_,_,eQ hfr hcs,⟨rfl,rfl⟩,fun e=>rW,fun y=>rfl⟩)))
   |spawn d=>
    intro x new;dsimp only[Ac];generalize (P.follows .goNilFatal&&_&&d.args.isEmpty&&fr.noResult P)=c;cases c with
    |true=>
     obtain⟨g,y,es',e,hd⟩:=Ck (P:=P) fr "go of nil func value" x;exact .inr (.inl ⟨g,y,_,by rw[if_pos rfl,e];rfl,hd⟩)
    |false=>exact .inr (.inr (.inl ⟨_,_,_,_,rfl⟩))
   |_=>exact hr.elim
  |error h=>
   cases h with
   |panic v=>exact kK.go (eQ (hfr.raise _) hcs) rfl _ (fun _=>mem_row) fun y new=>rfl
   |goexit=>exact kK.go (eQ (hfr.raise _) hcs) rfl _ (fun _=>mem_row) fun y new=>rfl
   |blocked=>exact absurd rfl hr.1
   |waiting=>exact absurd rfl hr.2
   |exit c=>exact kK.ended fun x new=>⟨_,_,_,rfl⟩
   |fatal m=>
    intro x new;dsimp only[Ac];rcases tX (P:=P) fr cs none m x with⟨o,y,es',e⟩|⟨g,y,es',e,hd⟩
    ·rw[e];exact .inl ⟨_,_,_,rfl⟩
    ·rw[e];exact .inr (.inl ⟨_,_,_,rfl,hd⟩)
   |throw m=>exact kK.Eo fun x new=>⟨_,_,_,rfl,.inl rfl,_,rfl,rfl,NoEnter.nil P⟩
   |unsupported u=>
    intro x new;dsimp only[Ac];cases u with
    |initOrder g=>
     dsimp only;obtain⟨o,es',e⟩:=KW T fr cs none g x;rw[e];exact .inl ⟨_,_,_,rfl⟩
    |_=>exact .inl ⟨_,_,_,rfl⟩
   |stuck s=>exact kK.ended fun x new=>⟨_,_,_,rfl⟩
end
section
variable{P:aI}{lw w:ar}
theorem wO(T:Quiet P){fr:bL}{cs:List bL}(hfr:dx fr)(hcs:∀c∈cs,dx c)(v:aj) :
  (∃g,zN g∧g.dying=none∧∀y,tL P true fr cs none v y=.go g y #[])∨(∀y,∃o,tL P true fr cs none v y=.ended o y #[]):=by
 cases cs with
 |cons c rest=>
  have hc:=hcs c (cR ..);have yX:∀c∈rest,dx c:=fun x hx=>hcs x (bI _ hx);cases hk:fr.kind with
  |normal=>exact .inl ⟨_,eQ (hc.finish v) yX,rfl,fun y=>by simp only[tL,hk];rfl⟩
  |wrapped=>exact .inl ⟨_,eQ (hc.finish v) yX,rfl,fun y=>by simp only[tL,hk];rfl⟩
  |early=>exact .inl ⟨_,eQ hc yX,rfl,fun y=>by simp only[tL,hk];rfl⟩
  |_=>
   refine .inl ⟨_,eQ ?_ yX,rfl,fun y=>by simp only[tL,hk];rfl⟩;split
   ·split<;>exact hc.mode _
   ·exact hc
 |nil=>
  have key:fr.kind≠.report→∀y,tL P true fr [] none v y=(match P.inits.idxOf? fr.fn with
    |some k=>.go { frame:=dZ P (P.initFrom (k+1)) #[] .normal,callers:=[],status:=.running,dying:=none } y
    |none=>.ended (.done v) y):=fun hk y=>by
   unfold tL;cases qy:fr.kind<;>first|exact absurd qy hk|rfl
  by_cases hk:fr.kind=.report
  ·exact .inr fun y=>⟨.stuck "report: Error or String returned no string" "",by obtain⟨fn,tmps,todo,defers,mode,kind,roundOf⟩:=fr;simp only at hk;subst hk;cases v<;>rfl⟩
  ·cases hi:P.inits.idxOf? fr.fn with
   |some k=>exact .inl ⟨_,eQ (cs:=[]) (nW T _ _ _) (by simp),rfl,fun y=>by rw[key hk,hi]⟩
   |none=>exact .inr fun y=>⟨_,by rw[key hk,hi]⟩
theorem zh[uf](T:Quiet P){fr:bL}{cs:List bL}(hfr:dx fr)(hcs:∀c∈cs,dx c){s:gZ aj}(hs:Calm P Any s)(cS:dw lw)(V:jc lw w)(F:ar→GStep)
  (h:∃K:Result aj × Array fP→GStep,(∀y,F y=K (s.runT P y #[]))∧(∀v es,∃es',(∀e∈es'++#[],e∈es)∧∀x,K (.ok v x,es)=.after es' (tL P true fr cs none v x))∧(∀h x es,∃o es',K (.halt h x,es)=.ended o x es')) :
  G6 P lw (F lw) (fun τ d=>F (dr w τ d)):=by
 obtain⟨K,h1,h2,h3⟩:=h;refine yn hs cS V F ⟨K,h1,fun why x es=>h3 _ x es,fun r hr=>?_⟩;cases r with
 |error h=>exact kK.ended fun x new=>by obtain⟨o,es',e⟩:=h3 h x new;exact⟨_,_,_,e⟩
 |ok v=>
  intro x new;rcases wO T hfr hcs v with⟨g,hg,hgd,e⟩|e
  ·refine .inr (.inr (.inr (.inl ?_)));obtain⟨es',he,e2⟩:=h2 v new;exact⟨g,_,hg,hgd,he,fun y=>by rw[show Ac (.ok v) y=.ok v y from rfl,e2,e];rfl⟩
  ·obtain⟨o,e⟩:=e x;obtain⟨es',he,e2⟩:=h2 v new;exact .inl ⟨o,x,_,by rw[show Ac (.ok v) x=.ok v x from rfl,e2,e];rfl⟩
theorem fB{es:Array fP}{p:aI}{fn:dR}:∀e,e∈seen p fn es++#[]→e∈es:=fun e h=>by
 rw[dS] at h;exact mem_seen h
theorem AL[uf](T:Quiet P){fr:bL}{cs:List bL}(hfr:dx fr)(hcs:∀c∈cs,dx c){d:Deferred}(hd:o6 d=true)(cS:dw lw)(V:jc lw w) :
  G6 P lw (callDeferred P fr cs none d lw) (fun τ d'=>callDeferred P fr cs none d (dr w τ d')):=by
 by_cases hn:((d.target matches .nil)&&(fr.mode matches .panicking _))=true
 ·have:∀y,∃o,callDeferred P fr cs none d y=.ended o y #[]:=fun y=>⟨_,by unfold callDeferred;exact if_pos hn⟩
  obtain⟨o,e⟩:=this lw;rw[e];trivial
 refine yn (qX T.toT9 d.target d.args hd) cS V (fun y=>callDeferred P fr cs none d y) ⟨?K,fun y=>?_,?_,?_⟩
 rotate_left
 ·unfold callDeferred;refine(if_neg hn).trans ?_;generalize (invoke d.target d.args).runT P y #[]=x;exact rfl
 ·intro why x es;exact⟨_,_,rfl⟩
 ·intro r hr;cases r with
  |ok n=>
   cases n with
   |enter f args=>exact kK.go (eQ (nW T f args _) (CQ hfr hcs)) rfl _ (fun _=>fB) fun y new=>rfl
   |round l f tmps a b=>exact kK.go (eQ (wN hr.1 hr.2 _) (CQ hfr hcs)) rfl _ (fun _=>fB) fun y new=>rfl
   |recover=>
    intro x new;refine .inr (.inr (.inr (.inl ?_)));cases hm:fr.mode with
    |returning=>
     cases ht:tryRecover fr cs with
     |none=>exact⟨_,_,eQ hfr hcs,rfl,fB,fun y=>by simp only[Ac,hm,ht];rfl⟩
     |some z=>exact⟨_,_,eQ hfr (lQ (v:=z.1) (cs':=z.2) hcs ht),rfl,fB,fun y=>by simp only[Ac,hm,ht];rfl⟩
    |_=>exact⟨_,_,eQ hfr hcs,rfl,fB,fun y=>by simp only[Ac,hm];rfl⟩
   |value v=>exact kK.go (eQ hfr hcs) rfl _ (fun _=>fB) fun y new=>rfl
   |skip=>exact kK.go (eQ hfr hcs) rfl _ (fun _=>fB) fun y new=>rfl
   |defer d=>exact kK.go (eQ hfr hcs) rfl _ (fun _=>fB) fun y new=>rfl
   |comm c b sh=>exact kK.go (eQ hfr hcs) rfl _ (fun _=>fB) fun y new=>rfl
   |spawn d=>exact kK.go (eQ hfr hcs) rfl _ (fun _=>fB) fun y new=>rfl
   |_=>exact hr.elim
  |error h=>
   cases h with
   |panic v=>exact kK.go (eQ (hfr.raise _) hcs) rfl _ (fun _=>fB) fun y new=>rfl
   |goexit=>exact kK.go (eQ (hfr.raise _) hcs) rfl _ (fun _=>fB) fun y new=>rfl
   |blocked=>exact absurd rfl hr.1
   |waiting=>exact absurd rfl hr.2
   |exit c=>exact kK.ended fun x new=>⟨_,_,_,rfl⟩
   |fatal m=>
    intro x new;dsimp only[Ac];rcases tX (P:=P) fr cs none m x with⟨o,y,es',e⟩|⟨g,y,es',e,hd⟩
    ·rw[e];exact .inl ⟨_,_,_,rfl⟩
    ·rw[e];exact .inr (.inl ⟨_,_,_,rfl,hd⟩)
   |throw m=>exact kK.Eo fun x new=>⟨_,_,_,rfl,.inl rfl,_,rfl,rfl,NoEnter.nil P⟩
   |unsupported u=>exact kK.ended fun x new=>⟨_,_,_,rfl⟩
   |stuck s=>exact kK.ended fun x new=>⟨_,_,_,rfl⟩
theorem pE[uf]{g:aB}(cS:dw lw)(V:jc lw w)(hg:zN g)(hgd:g.dying=none)(F:ar→GStep)(h:∀y,F y=.go g y #[]):G6 P lw (F lw) (fun τ d=>F (dr w τ d)):=by
 rw[h lw];exact RB cS V hg hgd fun τ d=>h _
theorem lg[uf](F:ar→GStep)(h:∀y,∃o y' es,F y=.ended o y' es):G6 P lw (F lw) (fun τ d=>F (dr w τ d)):=by
 obtain⟨o,y',es,e⟩:=h lw;rw[e];trivial
theorem Fg[uf](F:ar→GStep)(h:(∃o y' es,F lw=.ended o y' es)∨∃g y es,F lw=.go g y es∧g.dyingOn P):G6 P lw (F lw) (fun τ d=>F (dr w τ d)):=by
 rcases h with⟨o,y',es,e⟩|⟨g,y,es,e,hd⟩
 ·rw[e];trivial
 ·rw[e];exact .inl hd
theorem LV[uf](T:Quiet P){fr:bL}{cs:List bL}(hfr:dx fr)(hcs:∀c∈cs,dx c)(cS:dw lw)(V:jc lw w) :
  G6 P lw (lD P true fr cs none lw) (fun τ d=>lD P true fr cs none (dr w τ d)):=by
 obtain⟨ft,fd⟩:=hfr;obtain⟨fn,tmps,todo,defers,mode,kind,roundOf⟩:=fr;simp only at ft fd;cases defers with
 |cons d ds=>
  simp only[dO,aC] at fd;obtain⟨target,args⟩:=d;cases target with
  |collected block=>
   refine yn (P:=P) (zu block) cS V (fun y=>lD P true _ cs none y) ⟨?K,fun y=>?_,?_,?_⟩
   rotate_left
   ·unfold lD;dsimp only;generalize (Instr.takeDeferred block).runT P y #[]=x;exact rfl
   ·intro why x es;exact⟨_,_,rfl⟩
   ·intro r hr;cases r with
    |ok calls=>exact kK.go (eQ ⟨ft,by show(calls++ds).all o6=true;rw[List.all_append,fd.2,Bool.and_true];exact hr⟩ hcs) rfl _ (fun _=>fB) fun y new=>rfl
    |error h=>exact kK.ended fun x new=>⟨_,_,_,rfl⟩
  |_=>exact AL T (fr:=⟨fn,tmps,todo,ds,mode,kind,roundOf⟩) ⟨ft,fd.2⟩ hcs fd.1 cS V
 |nil=>
  cases mode with
  |run=>exact lg (fun y=>lD P true _ cs none y) fun y=>⟨_,_,_,rfl⟩
  |panicking chain=>
   by_cases hc:(Frame.catches P ⟨fn,tmps,todo,[],.panicking chain,kind,roundOf⟩)=true
   ·exact lg (fun y=>lD P true _ cs none y) fun y=>⟨_,_,_,by unfold lD;simp only[hc,if_true];rfl⟩
   ·cases cs with
    |cons c rest=>
     exact pE cS V (eQ ((hcs c (cR ..)).raise chain) fun x hx=>hcs x (bI _ hx)) rfl (fun y=>lD P true _ _ none y) fun y=>by unfold lD;simp only[hc];rfl
    |nil=>
     by_cases hg:(chain.head?.any (·.goexit))=true
     ·exact pE (g:=⟨⟨fn,tmps,todo,[],.panicking chain,kind,roundOf⟩,[],.finished,none,none⟩) cS V ⟨⟨ft,rfl⟩,by simp,.inr rfl⟩ rfl (fun y=>lD P true _ _ none y) fun y=>by unfold lD;simp only[hc,hg,if_true];rfl
     ·refine Fg (fun y=>lD P true _ [] none y) ?_;unfold lD;simp only[hc,hg,if_false,bu];split
      ·exact .inr ⟨_,_,_,rfl,.inl rfl,_,rfl,rfl,T.enters _⟩
      ·exact .inl ⟨_,_,_,rfl⟩
      ·exact .inl ⟨_,_,_,rfl⟩
  |returning=>
   cases hf:P.funcs[fn]? with
   |none=>
    rcases wO T (fr:=⟨fn,tmps,todo,[],.returning,kind,roundOf⟩) ⟨ft,rfl⟩ hcs (tmps.getD 0 undef) with⟨g,hg,hgd,e⟩|e
    ·exact pE cS V hg hgd (fun y=>lD P true _ cs none y) fun y=>by unfold lD;simp only[hf];exact e y
    ·exact lg (fun y=>lD P true _ cs none y) fun y=>by
      obtain⟨o,e⟩:=e y;exact⟨o,y,#[],by unfold lD;simp only[hf];exact e⟩
   |some fn'=>
    refine zh T (fr:=⟨fn,tmps,todo,[],.returning,kind,roundOf⟩) ⟨ft,rfl⟩ hcs (zv fn' tmps) cS V (fun y=>lD P true _ cs none y) ⟨?K2,fun y=>?_,?_,?_⟩
    rotate_left
    ·unfold lD;simp only[hf];generalize (results fn' tmps).runT P y #[]=x;exact rfl
    ·intro v es;exact⟨_,fB,fun x=>rfl⟩
    ·intro h x es;cases h<;>exact⟨_,_,rfl⟩
end
section
variable{P:aI}{lw w:ar}
theorem Od{x:Item}{l:List Item}(h:(x::l).all iw=true):iw x=true∧l.all iw=true:=by
 simpa only[dO,aC] using h
theorem PE[uf](T:Quiet P){fr:bL}{cs:List bL}(hfr:dx fr)(hcs:∀c∈cs,dx c)(cS:dw lw)(V:jc lw w){l:Nat}(jump:Option Code)(hj:jump.all dP=true)(F:ar→GStep)
  (h:∃K:Result aj × Array fP→GStep,(∀y,F y=K ((Instr.endRound l jump).runT P y #[]))∧(∀v es,∃es',(∀e∈es'++#[],e∈es)∧∀x,K (.ok v x,es)=.after es' (tL P true fr cs none v x))∧(∀h x es,∃o es',K (.halt h x,es)=.ended o x es')) :
  G6 P lw (F lw) (fun τ d=>F (dr w τ d)):=zh T hfr hcs (FP l jump hj) cS V F h
theorem R1[uf](T:Quiet P){fr:bL}{cs:List bL}(hfr:dx fr)(hcs:∀c∈cs,dx c)(cS:dw lw)(V:jc lw w) :
  G6 P lw (eI P true fr cs none lw) (fun τ d=>eI P true fr cs none (dr w τ d)):=by
 cases ho:fr.oper? with
 |none=>exact lg (fun y=>eI P true fr cs none y) fun y=>⟨_,_,_,by unfold eI;rw[ho]⟩
 |some o=>
  have hoo:Aa o=true:=by
   unfold Frame.oper? at ho;split at ho
   ·rename_i ops i rest k e;have:=hfr.todo;rw[e] at this;have h1:=(Od this).1;simp only[iw,Array.all_eq_true] at h1;obtain⟨hi,rfl⟩:=ak.1 ho;exact h1 i hi
   ·cases ho
  have gen:∀y,(∀c l,fr.roundOf=some l→o.op≠.defer c)→eI P true fr cs none y=dX P true fr cs none (execOp fr.eval o) y:=fun y hn=>by
   unfold eI;rw[ho];cases hr:fr.roundOf with
   |none=>rfl
   |some l=>
    dsimp only;split
    ·rename_i e1 e2;exact absurd e2 (hn _ _ hr)
    ·rfl
  by_cases hd:∃c l,fr.roundOf=some l∧o.op=.defer c
  ·obtain⟨c,l,hr,hop⟩:=hd
   have e:∀y,eI P true fr cs none y=dX P true fr cs none (do Instr.deferInRound l (←resolve fr.eval c o.type);pure .skip) y:=fun y=>by
    unfold eI;rw[ho];simp only[hr,hop]
   simp only[e];refine vQ T hfr hcs ?_ cS V
   have hc:H4 c=true:=by
    unfold Aa at hoo;rw[hop] at hoo;exact hoo
   exact ep (lu _ _ _ hc) fun d hd=>aP (zw l d hd) fun _=>trivial
  ·have hn:∀c l,fr.roundOf=some l→o.op≠.defer c:=fun c l h1 h2=>hd ⟨c,l,h1,h2⟩;simp only[fun y=>gen y hn];exact vQ T hfr hcs (Le T.toT9 _ _ hoo) cS V
theorem Pq[uf]{s:GStep}{f}(h:G6 P lw s f){es:Array fP}(he:∀e∈es,AV lw.heap.size e):G6 P lw (A4 es s) (fun τ d=>A4 es (f τ d)):=by
 cases s with
 |ended=>trivial
 |spawn=>trivial
 |go g' ek es'=>
  rcases h with h|⟨hg,hgd,w',k,hb,hf⟩
  ·exact .inl h
  ·refine .inr ⟨hg,hgd,w',k,⟨hb.tape,hb.drawn,hb.grows,hb.ok,fun e hx=>?_,hb.sK⟩,fun τ d ha=>by dsimp only;rw[hf τ d ha];rfl⟩;rcases F2.1 hx with hx|hx
   ·exact(he e hx).mono hb.grows
   ·exact hb.evs e hx
 |comm g' cs b sh ek es'=>
  obtain⟨hg,hd,w',k,hb,hf⟩:=h;refine⟨hg,hd,w',k,⟨hb.tape,hb.drawn,hb.grows,hb.ok,fun e hx=>?_,hb.sK⟩,fun τ d ha=>by dsimp only;rw[hf τ d ha];rfl⟩;rcases F2.1 hx with hx|hx
  ·exact(he e hx).mono hb.grows
  ·exact hb.evs e hx
 |_=>exact h.elim
theorem vR{a b:Nat}{τ τ':Nat→dA→Nat}{d d':Nat}(h:Agree (a+b) τ d τ' d'):Agree a τ d τ' d'∧Agree b τ (d+a) τ' (d'+a):=
 ⟨h.le (by omega),fun i hi=>by have:=h (a+i) (by omega);rwa [←ng,←ng] at this⟩
theorem Po[uf]{ek:ar}{s:GStep}{f f'}{n:Nat}(h:G6 P ek s f')(ht:ek.tape=lw.tape)(hd:ek.drawn=lw.drawn+n)(hs:lw.heap.size≤ek.heap.size)
  (hf:∀τ d,Agree n lw.tape lw.drawn τ d→f τ d=f' τ (d+n)):G6 P lw s f:=by
 cases s with
 |ended=>trivial
 |spawn=>trivial
 |go g' Yr es'=>
  rcases h with h|⟨hg,hgd,w',k,hb,hf'⟩
  ·exact .inl h
  ·refine .inr ⟨hg,hgd,w',n+k,⟨hb.tape.trans ht,by rw[hb.drawn,hd];omega,aN hs hb.grows,hb.ok,hb.evs,hb.sK⟩,fun τ d ha=>?_⟩;obtain⟨h1,h2⟩:=vR ha;rw[hf τ d h1,hf' τ (d+n) (by rw[ht,hd];exact h2),ng]
 |comm g' cs b sh Yr es'=>
  obtain⟨hg,LL,w',k,hb,hf'⟩:=h;refine⟨hg,LL,w',n+k,⟨hb.tape.trans ht,by rw[hb.drawn,hd];omega,aN hs hb.grows,hb.ok,hb.evs,hb.sK⟩,fun τ d ha=>?_⟩;obtain⟨h1,h2⟩:=vR ha;rw[hf τ d h1,hf' τ (d+n) (by rw[ht,hd];exact h2),ng]
 |_=>exact h.elim
theorem TB[uf](T:Quiet P){fr:bL}{cs:List bL}(hfr:dx fr)(hcs:∀c∈cs,dx c)(cS:dw lw)(V:jc lw w) :
  G6 P lw (bW P true true fr cs none lw) (fun τ d=>bW P true true fr cs none (dr w τ d)):=by
 have hfr0:=hfr;obtain⟨ft,fd⟩:=hfr;obtain⟨fn,tmps,todo,defers,mode,kind,roundOf⟩:=fr;simp only at ft fd
 have leave:∀(jump:Option Code),jump.all dP=true→∀F:ar→GStep,(∀y,F y=(match (generalizing:=false) roundOf with
   |none=>if jump matches none|some .ret then .go { frame:={ fn:=fn,tmps:=tmps,todo:=todo,defers:=defers,mode:=.returning,kind:=kind,roundOf:=roundOf },callers:=cs,status:=.running,dying:=none } y
     else .ended (.stuck "exit, goto: no such block or label" (Frame.pos P ⟨fn,tmps,todo,defers,mode,kind,roundOf⟩)) y
   |some l=>
    let (r,es):=(Instr.endRound l jump).runT P y #[]
    A4 (seen P fn es) <| match r with
    |.ok v w=>tL P true ⟨fn,tmps,todo,defers,mode,kind,roundOf⟩ cs none v w
    |.halt _ w=>.ended (.stuck "range over a function: no such loop" (Frame.pos P ⟨fn,tmps,todo,defers,mode,kind,roundOf⟩)) w))→
   G6 P lw (F lw) (fun τ d=>F (dr w τ d)):=by
  intro jump hj F hF;cases roundOf with
  |none=>
   by_cases hm:(match (generalizing:=false) jump with|none|some .ret=>true|_=>false)=true
   ·exact pE cS V (eQ (fr:={ fn:=fn,tmps:=tmps,todo:=todo,defers:=defers,mode:=.returning,kind:=kind,roundOf:=none }) ⟨ft,fd⟩ hcs) rfl F fun y=>(hF y).trans (if_pos hm)
   ·exact lg F fun y=>⟨_,_,_,(hF y).trans (if_neg hm)⟩
  |some l=>
   refine PE T hfr0 hcs cS V (l:=l) jump hj F ⟨?K,fun y=>?_,?_,?_⟩
   rotate_left
   ·rw[hF y];dsimp only;generalize (Instr.endRound l jump).runT P y #[]=x;exact rfl
   ·intro v es;exact⟨_,fB,fun x=>rfl⟩
   ·intro h x es;exact⟨_,_,rfl⟩
 have to:∀(t:List Item),t.all iw=true→∀F:ar→GStep,(∀y,F y=.go { frame:={ fn:=fn,tmps:=tmps,todo:=t,defers:=defers,mode:=mode,kind:=kind,roundOf:=roundOf },callers:=cs,status:=.running,dying:=none } y #[])→
   G6 P lw (F lw) (fun τ d=>F (dr w τ d)):=fun t ht F hF=>pE cS V (eQ ⟨ht,fd⟩ hcs) rfl F hF
 have ended:∀F:ar→GStep,(∀y,∃o y' es,F y=.ended o y' es)→G6 P lw (F lw) (fun τ d=>F (dr w τ d)):=fun F hF=>lg F hF;cases todo with
 |nil=>exact leave none rfl (fun y=>bW P true true _ cs none y) fun y=>rfl
 |cons x k=>
  obtain⟨hx,hk⟩:=Od ft;have cons:∀(y:Item) (l:List Item),iw y=true→l.all iw=true→(y::l).all iw=true:=fun y l h1 h2=>by rw[dO,h1,h2];rfl
  cases x with
  |inBlock id=>exact to k hk (fun y=>bW P true true _ cs none y) fun y=>rfl
  |inScope body=>exact to k hk (fun y=>bW P true true _ cs none y) fun y=>rfl
  |inLoop body=>exact to _ (cons (.code body) _ hx (cons (.inLoop body) _ hx hk)) (fun y=>bW P true true _ cs none y) fun y=>rfl
  |inRegion ops l=>
   cases l with
   |nil=>exact to k hk (fun y=>bW P true true _ cs none y) fun y=>rfl
   |cons i rest=>
    by_cases hw:(((ops[i]?).map (Region.wanted · (yielded ops tmps))).getD false)=true
    ·have e:∀y,bW P true true ⟨fn,tmps,.inRegion ops (i::rest)::k,defers,mode,kind,roundOf⟩ cs none y=eI P true ⟨fn,tmps,.inRegion ops (i::rest)::k,defers,mode,kind,roundOf⟩ cs none y:=fun y=>if_pos hw;simp only[e];exact R1 T hfr0 hcs cS V
    ·exact pE cS V (eQ (hfr0.finish undef) hcs) rfl (fun y=>bW P true true _ cs none y) fun y=>if_neg hw
  |inRangeFunc l=>exact ended (fun y=>bW P true true _ cs none y) fun y=>⟨_,_,_,rfl⟩
  |endRangeFunc l=>
   refine yn (P:=P) (I5 l) cS V (fun y=>bW P true true _ cs none y) ⟨?K1,fun y=>?_,?_,?_⟩
   rotate_left
   ·unfold bW;dsimp only;generalize (Instr.endLoop l).runT P y #[]=x;exact rfl
   ·intro why x es;exact⟨_,_,rfl⟩
   ·intro r hr;cases r with
    |ok jump=>
     have ht:((jump.map Item.code).toList++k).all iw=true:=by
      rw[List.all_append,hk,Bool.and_true];cases jump with
      |none=>rfl
      |some c=>
       have:dP c=true:=hr;simp[iw,this]
     exact kK.go (eQ (fr:={ fn:=fn,tmps:=tmps,todo:=(jump.map Item.code).toList++k,defers:=defers,mode:=mode,kind:=kind,roundOf:=roundOf }) ⟨ht,fd⟩ hcs) rfl _ (fun _=>fB) fun y new=>rfl
    |error h=>
     cases h with
     |panic v=>exact kK.go (eQ (hfr0.raise _) hcs) rfl _ (fun _=>fB) fun y new=>rfl
     |_=>exact kK.ended fun x new=>⟨_,_,_,rfl⟩
  |beginRound=>
   refine vQ T hfr0 hcs ?_ cS V;cases roundOf with
   |none=>exact aP (bA (Q:=Any)) fun _=>trivial
   |some l=>exact aP (Cn l) fun _=>trivial
  |call d a b c=>exact absurd hx (by simp[iw])
  |extern r a=>exact absurd hx (by simp[iw])
  |code c=>
   have hc:dP c=true:=hx;cases c with
   |ret=>exact leave (some .ret) rfl (fun y=>bW P true true _ cs none y) fun y=>rfl
   |skip=>exact to k hk (fun y=>bW P true true _ cs none y) fun y=>rfl
   |label l=>exact to k hk (fun y=>bW P true true _ cs none y) fun y=>rfl
   |seq a b=>
    simp only[dP,aC] at hc;exact to _ (cons (.code a) _ hc.1 (cons (.code b) _ hc.2 hk)) (fun y=>bW P true true _ cs none y) fun y=>rfl
   |cond c t e=>
    simp only[dP,aC] at hc
    by_cases hb:∃b,Frame.eval ⟨fn,tmps,.code (.cond c t e)::k,defers,mode,kind,roundOf⟩ c=.bool b
    ·obtain⟨b,hb⟩:=hb
     have e:∀y,bW P true true ⟨fn,tmps,.code (.cond c t e)::k,defers,mode,kind,roundOf⟩ cs none y=.go { frame:={ fn:=fn,tmps:=tmps,todo:=.code (if b then t else e)::k,defers:=defers,mode:=mode,kind:=kind,roundOf:=roundOf },callers:=cs,status:=.running,dying:=none } y #[]:=fun y=>by
      unfold bW;simp only[hb]
     exact to _ (cons _ _ (by cases b;exact hc.2;exact hc.1) hk) (fun y=>bW P true true _ cs none y) e
    ·refine ended (fun y=>bW P true true _ cs none y) fun y=>⟨.stuck "cond: bool expected" (Frame.pos P ⟨fn,tmps,.code (.cond c t e)::k,defers,mode,kind,roundOf⟩),y,#[],?_⟩
     unfold bW;dsimp only;split
     ·rename_i b hb';exact absurd ⟨b,hb'⟩ hb
     ·exact rfl
   |block id body=>exact to _ (cons (.code body) _ hc (cons (.inBlock id) _ rfl hk)) (fun y=>bW P true true _ cs none y) fun y=>rfl
   |loop body=>exact to _ (cons (.code body) _ hc (cons (.inLoop body) _ hc hk)) (fun y=>bW P true true _ cs none y) fun y=>rfl
   |scope body=>exact to _ (cons (.code body) _ hc (cons (.inScope body) _ hc hk)) (fun y=>bW P true true _ cs none y) fun y=>rfl
   |exit id=>
    cases he:exitTo id k with
    |none=>exact leave (some (.exit id)) rfl (fun y=>bW P true true _ cs none y) fun y=>by unfold bW;simp only[he];rfl
    |some k'=>exact to k' (Ar hk he) (fun y=>bW P true true _ cs none y) fun y=>by unfold bW;simp only[he];rfl
   |goto l=>
    cases he:gotoIn l k with
    |none=>exact leave (some (.goto l)) rfl (fun y=>bW P true true _ cs none y) fun y=>by unfold bW;simp only[he];rfl
    |some k'=>exact to k' (Am hk he) (fun y=>bW P true true _ cs none y) fun y=>by unfold bW;simp only[he];rfl
   |refuse why=>exact ended (fun y=>bW P true true _ cs none y) fun y=>⟨_,_,_,rfl⟩
   |region id ops draw=>
    cases draw with
    |false=>exact to _ (cons (.inRegion ops _) _ hc hk) (fun y=>bW P true true _ cs none y) fun y=>rfl
    |true=>
     have e:∀y:ar,bW P true true ⟨fn,tmps,.code (.region id ops true)::k,defers,mode,kind,roundOf⟩ cs none y =
       .go { frame:={ fn:=fn,tmps:=tmps,todo:=.inRegion ops (Region.schedule (P.follows .mixedOrders) ops (y.tape y.drawn (.order fn id)))::k,defers:=defers,mode:=mode,kind:=kind,roundOf:=roundOf },callers:=cs,status:=.running,dying:=none } { y with drawn:=y.drawn+1 } #[]:=fun y=>rfl
     rw[e lw];refine .inr ⟨eQ (fr:={ fn:=fn,tmps:=tmps,todo:=.inRegion ops _::k,defers:=defers,mode:=mode,kind:=kind,roundOf:=roundOf }) ⟨cons (.inRegion ops _) _ hc hk,fd⟩ hcs,rfl,w,1,⟨rfl,rfl,ax _,cS,by simp,⟨V.size,V.os,V.out,V.at_,V.old,V.kept⟩⟩,fun τ d ha=>?_⟩;dsimp only;rw[e];have h0:lw.tape lw.drawn=τ d:=ha 0 (by omega);rw[h0];rfl
   |rangeFunc f params assign body=>
    simp only[dP,aC] at hc
    have Gx:∀x:bL,Calm P eD (do let d ←resolve x.eval { callee:=.value f,args:=#[.const (.func (.yield (0:Nat)) #[] #[])],argTypes:=#[] } 0;invoke d.target d.args):=fun x=>
     ep (lu _ _ _ rfl) fun d hd=>qX T.toT9 _ _ hd
    rcases vM (EH (P:=P) fn tmps params assign body roundOf hc.1 hc.2) cS V with⟨why,ek,h⟩|⟨ek,w',n,r,new,h⟩
    ·obtain⟨es,he⟩:=h #[]
     have:∃o es',bW P true true ⟨fn,tmps,.code (.rangeFunc f params assign body)::k,defers,mode,kind,roundOf⟩ cs none lw=.ended o ek es':=by
      unfold bW;simp only[he];exact⟨_,_,rfl⟩
     obtain⟨o,es',e⟩:=this;rw[e];trivial
    ·cases r with
     |error hh=>
      have:∃o es',bW P true true ⟨fn,tmps,.code (.rangeFunc f params assign body)::k,defers,mode,kind,roundOf⟩ cs none lw=.ended o ek es':=by
       unfold bW;simp only[h.lone #[]];exact⟨_,_,rfl⟩
      obtain⟨o,es',e⟩:=this;rw[e];trivial
     |ok z=>
      obtain⟨l,mark⟩:=z;have hm:mark.all o6=true:=h.res;have afF:dx ⟨fn,tmps,.inRangeFunc l::k,mark++defers,mode,kind,roundOf⟩:=⟨cons (.inRangeFunc l) _ rfl hk,by show(mark++defers).all o6=true;rw[List.all_append,hm,fd];rfl⟩
      have key:∀(y y':ar) (new:Array fP),(Instr.enterLoop fn tmps params assign body roundOf).runT P y #[]=(.ok (l,mark) y',new)→bW P true true ⟨fn,tmps,.code (.rangeFunc f params assign body)::k,defers,mode,kind,roundOf⟩ cs none y =
        A4 (seen P fn new) (dX P true ⟨fn,tmps,.inRangeFunc l::k,mark++defers,mode,kind,roundOf⟩ cs none (do let d ←resolve (Frame.eval ⟨fn,tmps,.inRangeFunc l::k,mark++defers,mode,kind,roundOf⟩) { callee:=.value f,args:=#[.const (.func (.yield l) #[] #[])],argTypes:=#[] } 0;invoke d.target d.args) y'):=fun y y' new e=>by
       rw[bW];dsimp only;rw[e]
      have hl:=h.lone #[];rw[eL] at hl;rw[key lw ek new hl];have inner:=vQ (lw:=ek) (w:=w') T afF hcs (s:=(do let d ←resolve (Frame.eval ⟨fn,tmps,.inRangeFunc l::k,mark++defers,mode,kind,roundOf⟩) { callee:=.value f,args:=#[.const (.func (.yield l) #[] #[])],argTypes:=#[] } 0;invoke d.target d.args)) (ep (lu _ _ _ rfl) fun d hd=>qX T.toT9 _ _ hd) h.ok h.sK;refine Po (Pq inner (es:=seen P fn new) fun e he=>h.evs e (mem_seen he)) h.tape h.drawn h.grows fun τ d ha=>?_;have hm2:=h.many τ d ha #[];rw[eL] at hm2;exact key _ _ _ hm2
theorem Gb[uf](T:Quiet P){g:aB}(hg:zN g)(hd:g.dying=none)(cS:dw lw)(V:jc lw w) :
  G6 P lw (stepG P true g lw) (fun τ d=>stepG P true g (dr w τ d)):=by
 obtain⟨fr,cs,st,dy,off⟩:=g;simp only at hd;subst hd;obtain⟨hf,hc,_⟩:=hg;cases hm:fr.mode with
 |run=>
  have e:∀y,stepG P true ⟨fr,cs,st,none,off⟩ y=bW P true true fr cs none y:=fun y=>by unfold stepG;simp only[hm]
  simp only[e];exact TB T hf hc cS V
 |_=>
  have e:∀y,stepG P true ⟨fr,cs,st,none,off⟩ y=lD P true fr cs none y:=fun y=>by unfold stepG;simp only[hm]
  simp only[e];exact LV T hf hc cS V
end
end Go.Lag
