/- The tape: what a program of the model's own monad yields hangs on the answers that it draws, and on nothing else of the tape. Calm programs of the mod .. -/
import GoSem.Step
import Derived.Calls
import Derived.Laws.Sem
import Derived.DyingOn
set_option linter.unusedVariables false
set_option linter.unusedSimpArgs false
set_option maxHeartbeats 100000000
set_option maxRecDepth 1000000
open Array renaming getElem?_setIfInBounds_ne → aD,getElem?_setIfInBounds → bD,append_empty → ep,empty_append → fJ,getElem?_eq_none → fX,getElem?_push → lD,getElem?_modify → py
open Bool renaming and_eq_true → aS,false_eq_true → bF
open Go renaming Program → aN,Value → ak,World → ar,Frame → bP,TypeId → bg,Question → dG,Addr → dc,FuncId → eD,runtimePanic → eL,callFunc → fY,Event → gy,Sem → jO,zeroValue → ja,underlying → je,typeInfo → lY,behindNumber → qP,unsupported → qR,findLabel → zL
open Go.Builtin renaming firstCells → fH,zeroCells → gl,append_ → kC,mayShare → qc
open Go.Instr renaming findAsking → kV,index → mS,checkKey → qV,findKey → uN,mapUpdate → zM
open Go.Sem renaming runT → dF
open Go.World renaming setCell → jA
open Go.stepG renaming apply → eE
open List renaming mem_cons → cC,mem_cons_of_mem → eG,all_cons → fE,mem_cons_self → mH
open Nat renaming le_refl → ay
open Option renaming map_eq_some_iff → eW,map_some → ej
open Pure renaming pure → fA
namespace Go.Lag
def cX(w:ar)(τ:Nat→dG→Nat)(d:Nat):World:={ w with tape:=τ,drawn:=d }
def Agree(n:Nat)(τ:Nat→dG→Nat)(d:Nat)(τ':Nat→dG→Nat)(d':Nat):Prop:=∀i,i<n→τ (d+i)=τ' (d'+i)
theorem Agree.le{n m:Nat}{τ τ':Nat→dG→Nat}{d d':Nat}(h:Agree n τ d τ' d')(hm:m≤n):Agree m τ d τ' d':=fun i hi=>h i (Nat.lt_of_lt_of_le hi hm)
@[simp] theorem oK (w:ar) (τ:Nat→dG→Nat) (d:Nat):(cX w τ d).heap=w.heap:=rfl
@[simp] theorem Wm (w:ar) (τ:Nat→dG→Nat) (d:Nat):(cX w τ d).os=w.os:=rfl
@[simp] theorem yz (w:ar) (τ:Nat→dG→Nat) (d:Nat):(cX w τ d).tape=τ:=rfl
@[simp] theorem qg (w:ar) (τ:Nat→dG→Nat) (d:Nat):(cX w τ d).drawn=d:=rfl
def Zf{α:Type}(r:Result α)(τ:Nat→dG→Nat)(d:Nat):Result α:=
 match r with
 |.ok a w=>.ok a (cX w τ d)
 |.halt h w=>.halt h (cX w τ d)
theorem oU(w:ar)(τ:Nat→dG→Nat)(d:Nat)(a:dc):(cX w τ d).cell? a=w.cell? a:=rfl
theorem xF(w:ar)(τ:Nat→dG→Nat)(d:Nat)(a:dc):(cX w τ d).frozen? a=w.frozen? a:=rfl
theorem N6(w:ar)(τ:Nat→dG→Nat)(d:Nat)(r:Nat):(cX w τ d).shape? r=w.shape? r:=rfl
theorem vq(p:aN)(w:ar)(τ:Nat→dG→Nat)(d:Nat)(a:dc)(b:Bool):(cX w τ d).farLoad p a b=w.farLoad p a b:=rfl
theorem Qh(p:aN)(w:ar)(τ:Nat→dG→Nat)(d:Nat)(x:dc)(u:bg)(k:dc)(b:Bool):(cX w τ d).seen p x u k b=w.seen p x u k b:=rfl
theorem EU(p:aN)(w:ar)(τ:Nat→dG→Nat)(d:Nat)(x:dc)(u:bg)(k:dc)(v:ak)(b:Bool) :
  (cX w τ d).viewStore p x u k v b=(w.viewStore p x u k v b).map fun(w',l)=>(cX w' τ d,l):=by
 unfold World.viewStore;simp only[Qh];generalize w.seen p x u k b=s;cases s with
 |error e=>by_cases h:tight p p.depth u<;>simp only[h]<;>rfl
 |ok s=>
  obtain⟨c,e,fz,first,like,cells⟩:=s
  by_cases h:tight p p.depth u
  ·simp only[h,Bind.bind,Except.bind,fA,Except.pure];simp only[Bool.not_true,bF,if_false];cases v.bytes? with
   |none=>rfl
   |some bytes=>
    simp only[];split
    ·rfl
    ·generalize (List.foldlM _ c cells:Except String (Array ak))=r;cases r<;>rfl
  ·simp only[h];rfl
theorem yU(p:aN)(w:ar)(τ:Nat→dG→Nat)(d:Nat)(a:dc)(v:ak)(b:Bool) :
  (cX w τ d).farStore p a v b=(w.farStore p a v b).map fun(w',l)=>(cX w' τ d,l):=by
 unfold World.farStore;simp only[oK];split
 ·rw[EU];generalize w.viewStore p _ _ a v b=r;cases r<;>rfl
 ·rfl
def zW:Builtin→Bool
 |.append|.cap|.clear|.close|.copy|.delete|.len|.max|.min|.recover|.panic=>true
 |_=>false
def Hg(c:Call):Bool:=
 match c.callee with
 |.builtin b=>zW b
 |_=>true
def zV(o:Oper):Bool:=
 match o.op with
 |.call c|.go c|.defer c=>Hg c
 |_=>true
def eb:Code→Bool
 |.region _ ops _=>ops.all zV
 |.seq a b=>eb a&&eb b
 |.cond _ a b=>eb a&&eb b
 |.block _ c=>eb c
 |.loop c=>eb c
 |.rangeFunc _ _ a b=>eb a&&eb b
 |.scope c=>eb c
 |_=>true
def JE:Target→Bool
 |.builtin b ..=>zW b
 |.coroexit _=>false
 |_=>true
def pE(d:Deferred):Bool:=JE d.target
def xm(l:Loop):Bool:=(l.pending.all eb)&&eb l.assign&&eb l.body
def dY:Obj→Bool
 |.loop l=>xm l
 |.deferred (some ds)=>ds.all pE
 |.coro _=>false
 |.finalizers ..=>false
 |_=>true
def IY(c:Sys):Prop:=∀os,∃r,Kernel.perform c os=.done (r,os)∧r≠.wouldBlock
def EM{α:Type}(s:jO α):Prop:=∃why,s=.halt (.stuck why)
def Calm(P:aN){α:Type}(Q:α→Prop):jO α→Prop
 |.pure a=>Q a
 |.load _ _ k=>∀v,Calm P Q (k v)
 |.store _ _ _ k=>Calm P Q k
 |.new o k=>dY o=true∧∀r,Calm P Q (k r)
 |.shape _ k=>∀s,Calm P Q (k s)
 |.freeze _ _ k=>Calm P Q k
 |.frozen _ k=>∀b,Calm P Q (k b)
 |.getObj _ k=>(∀o,dY o=true→Calm P Q (k o))∧(EM (k (.coro none))∨(Calm P Q (k (.coro none))∧∀o,dY o=false→k o=k (.coro none)))
 |.setObj _ o k=>dY o=true∧Calm P Q k
 |.choose _ k=>∀n,Calm P Q (k n)
 |.sys c k=>IY c∧∀r,Calm P Q (k r)
 |.program k=>Calm P Q (k P)
 |.mark m k=>(m=.noRoom∨∃f,m=.extern f)∧Calm P Q k
 |.halt h=>h≠.blocked∧h≠.waiting
def Gone(P:aN){α:Type}(Q:α→Prop)(f:Obj→jO α):Prop:=EM (f (.coro none))∨(Calm P Q (f (.coro none))∧∀o,dY o=false→f o=f (.coro none))
theorem dP{P:aN}{α:Type}{Q:α→Prop}{f:Obj→jO α}{w:String}(h:f (.coro none)=.halt (.stuck w)):Gone P Q f:=.inl ⟨w,h⟩
theorem dK{P:aN}{α:Type}{Q:α→Prop}{f:Obj→jO α}(h:Calm P Q (f (.coro none)))(h2 : ∀o,dY o=false→f o=f (.coro none)):Gone P Q f:=.inr ⟨h,h2⟩
abbrev Any{α:Type}:α→Prop:=fun _=>True
section
variable{P:aN}{α β:Type}{Q:β→Prop}
theorem eT{R:α→Prop}{s:jO α}{f:α→jO β}(hs:Calm P R s)(hf : ∀a,R a→Calm P Q (f a)):Calm P Q (s >>= f):=by
 show Calm P Q (s.bind f)
 induction s with
 |pure a=>exact hf a hs
 |load m a k ih=>exact fun v=>ih v (hs v)
 |store m a v k ih=>exact ih hs
 |new o k ih=>exact⟨hs.1,fun r=>ih r (hs.2 r)⟩
 |shape r k ih=>exact fun s=>ih s (hs s)
 |freeze a n k ih=>exact ih hs
 |frozen a k ih=>exact fun b=>ih b (hs b)
 |getObj r k ih=>
  refine⟨fun o ho=>ih o (hs.1 o ho),hs.2.imp (fun⟨why,hw⟩=>⟨why,by show(k (.coro none)).bind f=_;rw[hw];rfl⟩) fun⟨h1,h2⟩=>⟨ih _ h1,fun o ho=>?_⟩⟩;show(k o).bind f=(k (.coro none)).bind f;rw[h2 o ho]
 |setObj r o k ih=>exact⟨hs.1,ih hs.2⟩
 |choose q k ih=>exact fun n=>ih n (hs n)
 |sys c k ih=>exact⟨hs.1,fun r=>ih r (hs.2 r)⟩
 |program k ih=>exact ih P hs
 |mark m k ih=>exact⟨hs.1,ih hs.2⟩
 |halt h=>exact hs
theorem aP{s:jO α}{f:α→jO β}(hs:Calm P Any s)(hf : ∀a,Calm P Q (f a)):Calm P Q (s >>= f):=eT hs fun a _=>hf a
theorem Calm.imp{R:β→Prop}{s:jO β}(hs:Calm P R s)(h : ∀a,R a→Q a):Calm P Q s:=by
 have:=eT (f:=Sem.pure) (Q:=Q) hs (fun a ha=>h a ha);have e:s >>= Sem.pure=s:=bind_pure s;rwa [e] at this
theorem bG{a:α}:Calm P Any (fA a:jO α):=trivial
theorem dS{a:α}:Calm P Any (Sem.pure a:jO α):=trivial
theorem Er{a:β}(h:Q a):Calm P Q (fA a:jO β):=h
theorem eZ{s:jO α}{f:α→β}(hs:Calm P Any s):Calm P Any (Functor.map f s):=eT (Q:=Any) hs fun _ _=>trivial
theorem aY{w:String}:Calm P Q (stuck w:jO β):=⟨by simp,by simp⟩
theorem bz{u:Unsupported}:Calm P Q (qR u:jO β):=⟨by simp,by simp⟩
theorem cJ{v:ak}:Calm P Q (goPanic v:jO β):=⟨by simp,by simp⟩
theorem dT{w:String}:Calm P Q (fatal w:jO β):=⟨by simp,by simp⟩
theorem dL{w:String}:Calm P Q (throw w:jO β):=⟨by simp,by simp⟩
theorem en{a:dc}{m:Mode}:Calm P Any (load a m):=fun _=>trivial
theorem dM{a:dc}{v:ak}{m:Mode}:Calm P Any (store a v m):=trivial
theorem cR{o:Obj}(h:dY o=true):Calm P Any (newObj o):=⟨h,fun _=>trivial⟩
theorem dR{r:Nat}:Calm P Any (shape r):=fun _=>trivial
theorem dA{a:dc}{n:Nat}:Calm P Any (freeze a n):=trivial
theorem dx{a:dc}:Calm P Any (frozen a):=fun _=>trivial
theorem cO{r:Nat}{f:Obj→jO β}(h : ∀o,dY o=true→Calm P Q (f o))(hk:Gone P Q f):Calm P Q (getObj r >>= f):=⟨h,hk⟩
theorem cL{r:Nat}{o:Obj}(h:dY o=true):Calm P Any (setObj r o):=⟨h,trivial⟩
theorem cS{q:dG}:Calm P Any (choose q):=fun _=>trivial
theorem cG:Calm P Any program:=trivial
theorem cQ{n:Nat}:Calm P Any (askRoom n):=by
 unfold askRoom;split
 ·exact⟨.inl rfl,trivial⟩
 ·trivial
theorem dr:Calm P Any (mark .noRoom):=⟨.inl rfl,trivial⟩
theorem Et{f:α→jO β}(hf : ∀a,Calm P Any (f a))(l:List α):Calm P Any (l.mapM f):=by
 rw[←List.mapM'_eq_mapM]
 induction l with
 |nil=>exact bG
 |cons a l ih=>exact aP (hf a) fun _=>aP ih fun _=>bG
theorem dZ{f:α→jO β}(hf : ∀a,Calm P Any (f a))(l:Array α):Calm P Any (l.mapM f):=by
 rw[Array.mapM_eq_mapM_toList];exact eZ (Et hf _)
theorem BK{γ:Type}{f:β→γ→jO β}(hf : ∀a b,Calm P Any (f a b))(b:β)(l:List γ):Calm P Any (l.foldlM f b):=by
 induction l generalizing b with
 |nil=>exact bG
 |cons a l ih=>exact aP (hf b a) fun _=>ih _
theorem bV{γ:Type}{f:γ→β→jO (ForInStep β)}(hf : ∀a b,Calm P Any (f a b))(l:List γ)(b:β):Calm P Any (forIn l b f):=by
 induction l generalizing b with
 |nil=>exact bG
 |cons a l ih=>
  rw[List.forIn_cons];refine aP (hf a b) fun r=>?_;cases r with
  |done b=>exact bG
  |yield b=>exact ih b
theorem bX{γ:Type}{f:γ→β→jO (ForInStep β)}(hf : ∀a b,Calm P Any (f a b))(l:Array γ)(b:β):Calm P Any (forIn l b f):=by
 rw[←Array.forIn_toList];exact bV hf _ _
theorem bW{f:Nat→β→jO (ForInStep β)}(hf : ∀a b,Calm P Any (f a b))(l:Std.Legacy.Range)(b:β):Calm P Any (forIn l b f):=by
 rw[Std.Legacy.Range.forIn_eq_forIn_range'];exact bV hf _ _
end
section
variable{P:aN}
theorem xJ(a i n acc):Calm P Any (loadCellsFrom a i n acc):=by
 induction n generalizing i acc with
 |zero=>exact bG
 |succ n ih=>exact aP en fun _=>ih _ _
theorem kP(a vs i):Calm P Any (storeCells a vs i):=by
 induction vs generalizing i with
 |nil=>exact bG
 |cons v vs ih=>exact aP dM fun _=>ih _
theorem l8:(∀x0,Calm P Any (viewAt x0))∧(∀x0,Calm P Any (numberAt x0))∧(∀x0,Calm P Any (cellsIn x0))∧(∀x0 x1,Calm P Any (asNumber x0 x1))∧(∀x0,Calm P Any (markStringish x0))∧(∀x0,Calm P Any (stringish x0))∧(∀x0,Calm P Any (lY x0))∧(∀x0,Calm P Any (je x0))∧(∀x0,Calm P Any (cutType x0))∧(∀x0,Calm P Any (globalAddr x0))∧(∀x0 x1,Calm P Any (newRow x0 x1))∧(∀ {α:Type} m,Calm P Any (panicString m:jO α))∧(∀x0,Calm P Any (asIntOf x0))∧(∀x0,Calm P Any (asBool x0))∧(∀x0,Calm P Any (asString x0))∧(∀x0,Calm P Any (asAgg x0))∧(∀x0 x1 x2,Calm P Any (variablesAt x0 x1 x2))∧(∀x0,Calm P Any (Instr.sureAddr x0))∧(∀x0,Calm P Any (Instr.entry x0))∧(∀x0 x1,Calm P Any (Instr.extract x0 x1))∧(∀x0 x1 x2 x3,Calm P Any (Op.floatArith x0 x1 x2 x3))∧(∀x0 x1 x2 x3,Calm P Any (Op.floatCmp x0 x1 x2 x3))∧(∀x0 x1 x2 x3,Calm P Any (Op.intArith x0 x1 x2 x3))∧(∀x0 x1 x2 x3,Calm P Any (Op.intBits x0 x1 x2 x3))∧(∀x0 x1 x2,Calm P Any (Op.intCmp x0 x1 x2))∧(∀x0 x1 x2,Calm P Any (Op.stringOp x0 x1 x2))∧(∀x0 x1 x2,Calm P Any (Conv.floatToFloat x0 x1 x2))∧(∀x0 x1 x2,Calm P Any (Conv.floatToInt x0 x1 x2))∧(∀x0 x1,Calm P Any (Conv.intToFloat x0 x1))∧(∀x0 x1,Calm P Any (Conv.intToInt x0 x1))∧(∀x0,Calm P Any (Conv.intToString x0))∧(∀x0 x1 x2,Calm P Any (Instr.makeFunc x0 x1 x2))∧(∀x0 x1,Calm P Any (Instr.keyThatStays x0 x1))∧(∀x0,Calm P Any (Instr.waits x0))∧(∀x0,Calm P Any (Instr.ready x0))∧(∀x0 x1,Calm P Any (Builtin.holdsCells x0 x1)):=by
 refine⟨?_,?_,?_,?_,?_,?_,?_,?_,?_,?_,?_,?_,?_,?_,?_,?_,?_,?_,?_,?_,?_,?_,?_,?_,?_,?_,?_,?_,?_,?_,?_,?_,?_,?_,?_,?_⟩<;>intros
 all_goals first|unfold viewAt|unfold numberAt|unfold cellsIn|unfold asNumber|unfold markStringish|unfold stringish|unfold lY|unfold je|unfold cutType|unfold globalAddr|unfold newRow|unfold panicString|unfold asIntOf|unfold asBool|unfold asString|unfold asAgg|unfold variablesAt|unfold Instr.sureAddr|unfold Instr.entry|unfold Instr.extract|unfold Op.floatArith|unfold Op.floatCmp|unfold Op.intArith|unfold Op.intBits|unfold Op.intCmp|unfold Op.stringOp|unfold Conv.floatToFloat|unfold Conv.floatToInt|unfold Conv.intToFloat|unfold Conv.intToInt|unfold Conv.intToString|unfold Instr.makeFunc|unfold Instr.keyThatStays|unfold Instr.waits|unfold Instr.ready|unfold Builtin.holdsCells
 all_goals repeat' (first|with_reducible (first|exact bG|exact dS|exact aY|exact bz|exact cJ|exact dT|exact dL|exact en|exact dM|exact dR|exact dA|exact dx|exact cS|exact cG|exact cQ|exact dr|exact(cR rfl)|exact(cL rfl))|(with_reducible assumption)|(with_reducible apply dP;exact rfl)|(with_reducible refine dK ?_ (fun o ho=>by cases o<;>first|rfl|(revert ho;simp[dY];done)))|(refine cO (fun _ _=>?_) ?_)|(refine aP ?_ (fun _=>?_))|(refine eZ ?_)|(refine dZ (fun _=>?_) _)|(refine bV (fun _ _=>?_) _ _)|(refine bX (fun _ _=>?_) _ _)|(refine bW (fun _ _=>?_) _ _)|split|intro _|dsimp only|trivial)
theorem BI(x0):Calm P Any (viewAt x0):=l8.1 x0
theorem wU(x0):Calm P Any (numberAt x0):=l8.2.1 x0
theorem Iz(x0):Calm P Any (cellsIn x0):=l8.2.2.1 x0
theorem wV(x0 x1):Calm P Any (asNumber x0 x1):=l8.2.2.2.1 x0 x1
theorem qF(x0):Calm P Any (markStringish x0):=l8.2.2.2.2.1 x0
theorem Ep(x0):Calm P Any (stringish x0):=l8.2.2.2.2.2.1 x0
theorem fe(x0):Calm P Any (lY x0):=l8.2.2.2.2.2.2.1 x0
theorem bU(x0):Calm P Any (je x0):=l8.2.2.2.2.2.2.2.1 x0
theorem rp(x0 x1):Calm P Any (newRow x0 x1):=l8.2.2.2.2.2.2.2.2.2.2.1 x0 x1
theorem zq(x0):Calm P Any (asIntOf x0):=l8.2.2.2.2.2.2.2.2.2.2.2.2.1 x0
theorem BN(x0):Calm P Any (asBool x0):=l8.2.2.2.2.2.2.2.2.2.2.2.2.2.1 x0
theorem kY(x0):Calm P Any (asString x0):=l8.2.2.2.2.2.2.2.2.2.2.2.2.2.2.1 x0
theorem qG(x0):Calm P Any (asAgg x0):=l8.2.2.2.2.2.2.2.2.2.2.2.2.2.2.2.1 x0
theorem Ak(x0 x1 x2):Calm P Any (variablesAt x0 x1 x2):=l8.2.2.2.2.2.2.2.2.2.2.2.2.2.2.2.2.1 x0 x1 x2
theorem jT(x0):Calm P Any (Instr.sureAddr x0):=l8.2.2.2.2.2.2.2.2.2.2.2.2.2.2.2.2.2.1 x0
theorem j0(x0):Calm P Any (Instr.entry x0):=l8.2.2.2.2.2.2.2.2.2.2.2.2.2.2.2.2.2.2.1 x0
theorem mN(x0 x1):Calm P Any (Instr.extract x0 x1):=l8.2.2.2.2.2.2.2.2.2.2.2.2.2.2.2.2.2.2.2.1 x0 x1
theorem qI(x0 x1 x2 x3):Calm P Any (Op.floatArith x0 x1 x2 x3):=l8.2.2.2.2.2.2.2.2.2.2.2.2.2.2.2.2.2.2.2.2.1 x0 x1 x2 x3
theorem sO(x0 x1 x2 x3):Calm P Any (Op.floatCmp x0 x1 x2 x3):=l8.2.2.2.2.2.2.2.2.2.2.2.2.2.2.2.2.2.2.2.2.2.1 x0 x1 x2 x3
theorem sN(x0 x1 x2 x3):Calm P Any (Op.intArith x0 x1 x2 x3):=l8.2.2.2.2.2.2.2.2.2.2.2.2.2.2.2.2.2.2.2.2.2.2.1 x0 x1 x2 x3
theorem uw(x0 x1 x2 x3):Calm P Any (Op.intBits x0 x1 x2 x3):=l8.2.2.2.2.2.2.2.2.2.2.2.2.2.2.2.2.2.2.2.2.2.2.2.1 x0 x1 x2 x3
theorem Ew(x0 x1 x2):Calm P Any (Op.intCmp x0 x1 x2):=l8.2.2.2.2.2.2.2.2.2.2.2.2.2.2.2.2.2.2.2.2.2.2.2.2.1 x0 x1 x2
theorem sM(x0 x1 x2):Calm P Any (Op.stringOp x0 x1 x2):=l8.2.2.2.2.2.2.2.2.2.2.2.2.2.2.2.2.2.2.2.2.2.2.2.2.2.1 x0 x1 x2
theorem nB(x0 x1 x2):Calm P Any (Conv.floatToFloat x0 x1 x2):=l8.2.2.2.2.2.2.2.2.2.2.2.2.2.2.2.2.2.2.2.2.2.2.2.2.2.2.1 x0 x1 x2
theorem vz(x0 x1 x2):Calm P Any (Conv.floatToInt x0 x1 x2):=l8.2.2.2.2.2.2.2.2.2.2.2.2.2.2.2.2.2.2.2.2.2.2.2.2.2.2.2.1 x0 x1 x2
theorem vy(x0 x1):Calm P Any (Conv.intToFloat x0 x1):=l8.2.2.2.2.2.2.2.2.2.2.2.2.2.2.2.2.2.2.2.2.2.2.2.2.2.2.2.2.1 x0 x1
theorem xR(x0 x1):Calm P Any (Conv.intToInt x0 x1):=l8.2.2.2.2.2.2.2.2.2.2.2.2.2.2.2.2.2.2.2.2.2.2.2.2.2.2.2.2.2.1 x0 x1
theorem uJ(x0):Calm P Any (Conv.intToString x0):=l8.2.2.2.2.2.2.2.2.2.2.2.2.2.2.2.2.2.2.2.2.2.2.2.2.2.2.2.2.2.2.1 x0
theorem wD(x0 x1 x2):Calm P Any (Instr.makeFunc x0 x1 x2):=l8.2.2.2.2.2.2.2.2.2.2.2.2.2.2.2.2.2.2.2.2.2.2.2.2.2.2.2.2.2.2.2.1 x0 x1 x2
theorem m5(x0 x1):Calm P Any (Instr.keyThatStays x0 x1):=l8.2.2.2.2.2.2.2.2.2.2.2.2.2.2.2.2.2.2.2.2.2.2.2.2.2.2.2.2.2.2.2.2.1 x0 x1
theorem Av(x0):Calm P Any (Instr.waits x0):=l8.2.2.2.2.2.2.2.2.2.2.2.2.2.2.2.2.2.2.2.2.2.2.2.2.2.2.2.2.2.2.2.2.2.1 x0
theorem Aw(x0):Calm P Any (Instr.ready x0):=l8.2.2.2.2.2.2.2.2.2.2.2.2.2.2.2.2.2.2.2.2.2.2.2.2.2.2.2.2.2.2.2.2.2.2.1 x0
theorem sZ(x0 x1):Calm P Any (Builtin.holdsCells x0 x1):=l8.2.2.2.2.2.2.2.2.2.2.2.2.2.2.2.2.2.2.2.2.2.2.2.2.2.2.2.2.2.2.2.2.2.2.2 x0 x1
theorem Ax(t x):Calm P Any (Instr.range t x):=by
 unfold Instr.range;refine aP (bU ..) fun _=>?_
 repeat' (first|exact bG|exact aY|exact bz|exact(Er rfl)|exact(cR ‹_›)|(with_reducible apply dP;exact rfl)|(with_reducible refine dK ?_ (fun o ho=>by cases o<;>first|rfl|(revert ho;simp[dY];done)))|(refine cO (fun _ _=>?_) ?_)|(refine eT (R:=fun o=>dY o=true) ?_ (fun _ _=>?_))|(refine aP ?_ (fun _=>?_))|split|dsimp only)
theorem qy:(∀x0,Calm P Any (qP x0))∧(∀x0,Calm P Any (noView x0))∧(∀x0 x1,Calm P Any (mayBeOne x0 x1))∧(∀x0,Calm P Any (typeStr x0))∧(∀x0,Calm P Any (ja x0))∧(∀x0,Calm P Any (sizeOf x0))∧(∀x0,Calm P Any (isAgg x0))∧(∀x0 x1,Calm P Any (loadCells x0 x1))∧(∀x0 x1,Calm P Any (newVar x0 x1))∧(∀x0,Calm P Any (elemOf x0))∧(∀x0,Calm P Any (asInt x0))∧(∀x0 x1 x2,Calm P Any (intVariablesAt x0 x1 x2))∧(∀x0 x1,Calm P Any (storeBytes x0 x1))∧(∀x0 x1 x2 x3,Calm P Any (Conv.complexToComplex x0 x1 x2 x3))∧(∀x0 x1,Calm P Any (Conv.stringToBytes x0 x1))∧(∀x0 x1,Calm P Any (Conv.stringToRunes x0 x1))∧(∀x0,Calm P Any (Conv.seenAt x0))∧(∀x0 x1 x2 x3,Calm P Any (Op.Complex.arith x0 x1 x2 x3))∧(∀x0 x1 x2 x3,Calm P Any (Op.Complex.cmp x0 x1 x2 x3))∧(∀x0 x1 x2,Calm P Any (Op.Complex.conv x0 x1 x2))∧(∀x0 x1,Calm P Any (Instr.makeInterface x0 x1))∧(∀x0 x1 x2,Calm P Any (Instr.next x0 x1 x2))∧(∀x0 x1,Calm P Any (Builtin.max2 x0 x1))∧(∀x0 x1,Calm P Any (Builtin.min2 x0 x1)):=by
 refine⟨?_,?_,?_,?_,?_,?_,?_,?_,?_,?_,?_,?_,?_,?_,?_,?_,?_,?_,?_,?_,?_,?_,?_,?_⟩<;>intros
 all_goals first|unfold qP|unfold noView|unfold mayBeOne|unfold typeStr|unfold ja|unfold sizeOf|unfold isAgg|unfold loadCells|unfold newVar|unfold elemOf|unfold asInt|unfold intVariablesAt|unfold storeBytes|unfold Conv.complexToComplex|unfold Conv.stringToBytes|unfold Conv.stringToRunes|unfold Conv.seenAt|unfold Op.Complex.arith|unfold Op.Complex.cmp|unfold Op.Complex.conv|unfold Instr.makeInterface|unfold Instr.next|unfold Builtin.max2|unfold Builtin.min2
 all_goals repeat' (first|with_reducible (first|exact bG|exact dS|exact aY|exact bz|exact cJ|exact dT|exact dL|exact en|exact dM|exact dR|exact dA|exact dx|exact cS|exact cG|exact cQ|exact dr|exact(cR rfl)|exact(cL rfl)|exact wU ..|exact BI ..|exact Ep ..|exact fe ..|exact bU ..|exact xJ ..|exact rp ..|exact zq ..|exact kP ..|exact nB ..|exact qF ..|exact qI ..|exact BN ..|exact sO ..|exact j0 ..|exact sM ..)|(with_reducible assumption)|(with_reducible apply dP;exact rfl)|(with_reducible refine dK ?_ (fun o ho=>by cases o<;>first|rfl|(revert ho;simp[dY];done)))|(refine cO (fun _ _=>?_) ?_)|(refine aP ?_ (fun _=>?_))|(refine eZ ?_)|(refine dZ (fun _=>?_) _)|(refine bV (fun _ _=>?_) _ _)|(refine bX (fun _ _=>?_) _ _)|(refine bW (fun _ _=>?_) _ _)|split|intro _|dsimp only|trivial)
theorem lj(x0):Calm P Any (qP x0):=qy.1 x0
theorem KC(x0):Calm P Any (noView x0):=qy.2.1 x0
theorem Fs(x0 x1):Calm P Any (mayBeOne x0 x1):=qy.2.2.1 x0 x1
theorem nz(x0):Calm P Any (typeStr x0):=qy.2.2.2.1 x0
theorem gR(x0):Calm P Any (ja x0):=qy.2.2.2.2.1 x0
theorem iC(x0):Calm P Any (sizeOf x0):=qy.2.2.2.2.2.1 x0
theorem MA(x0):Calm P Any (isAgg x0):=qy.2.2.2.2.2.2.1 x0
theorem vu(x0 x1):Calm P Any (loadCells x0 x1):=qy.2.2.2.2.2.2.2.1 x0 x1
theorem vt(x0 x1):Calm P Any (newVar x0 x1):=qy.2.2.2.2.2.2.2.2.1 x0 x1
theorem BL(x0):Calm P Any (elemOf x0):=qy.2.2.2.2.2.2.2.2.2.1 x0
theorem kI(x0):Calm P Any (asInt x0):=qy.2.2.2.2.2.2.2.2.2.2.1 x0
theorem wB(x0 x1 x2):Calm P Any (intVariablesAt x0 x1 x2):=qy.2.2.2.2.2.2.2.2.2.2.2.1 x0 x1 x2
theorem qK(x0 x1 x2 x3):Calm P Any (Conv.complexToComplex x0 x1 x2 x3):=qy.2.2.2.2.2.2.2.2.2.2.2.2.2.1 x0 x1 x2 x3
theorem sU(x0 x1):Calm P Any (Conv.stringToBytes x0 x1):=qy.2.2.2.2.2.2.2.2.2.2.2.2.2.2.1 x0 x1
theorem sT(x0 x1):Calm P Any (Conv.stringToRunes x0 x1):=qy.2.2.2.2.2.2.2.2.2.2.2.2.2.2.2.1 x0 x1
theorem AB(x0):Calm P Any (Conv.seenAt x0):=qy.2.2.2.2.2.2.2.2.2.2.2.2.2.2.2.2.1 x0
theorem nO(x0 x1 x2 x3):Calm P Any (Op.Complex.arith x0 x1 x2 x3):=qy.2.2.2.2.2.2.2.2.2.2.2.2.2.2.2.2.2.1 x0 x1 x2 x3
theorem jS(x0 x1 x2 x3):Calm P Any (Op.Complex.cmp x0 x1 x2 x3):=qy.2.2.2.2.2.2.2.2.2.2.2.2.2.2.2.2.2.2.1 x0 x1 x2 x3
theorem vw(x0 x1 x2):Calm P Any (Op.Complex.conv x0 x1 x2):=qy.2.2.2.2.2.2.2.2.2.2.2.2.2.2.2.2.2.2.2.1 x0 x1 x2
theorem rL(x0 x1):Calm P Any (Instr.makeInterface x0 x1):=qy.2.2.2.2.2.2.2.2.2.2.2.2.2.2.2.2.2.2.2.2.1 x0 x1
theorem Cl(x0 x1 x2):Calm P Any (Instr.next x0 x1 x2):=qy.2.2.2.2.2.2.2.2.2.2.2.2.2.2.2.2.2.2.2.2.2.1 x0 x1 x2
theorem zC(x0 x1):Calm P Any (Builtin.max2 x0 x1):=qy.2.2.2.2.2.2.2.2.2.2.2.2.2.2.2.2.2.2.2.2.2.2.1 x0 x1
theorem zA(x0 x1):Calm P Any (Builtin.min2 x0 x1):=qy.2.2.2.2.2.2.2.2.2.2.2.2.2.2.2.2.2.2.2.2.2.2.2 x0 x1
theorem zB(x0 x1 x2):Calm P Any (Builtin.max_ x0 x1 x2):=by
 unfold Builtin.max_;split
 ·first|exact aY|exact bG
 ·refine BK (fun _ _=>zC ..) _ _
theorem zy(x0 x1 x2):Calm P Any (Builtin.min_ x0 x1 x2):=by
 unfold Builtin.min_;split
 ·first|exact aY|exact bG
 ·refine BK (fun _ _=>zA ..) _ _
theorem wb:(∀x0,Calm P Any (backFromNumber x0))∧(∀x0 x1,Calm P Any (sameAddr x0 x1))∧(∀x0 x1,Calm P Any (loadVar x0 x1))∧(∀x0 x1 x2,Calm P Any (storeVar x0 x1 x2))∧(∀x0 x1 x2,Calm P Any (part x0 x1 x2))∧(∀ {α:Type} e,Calm P Any (eL e:jO α))∧(∀x0,Calm P Any (byteOf x0))∧(∀x0 x1,Calm P Any (byteVariablesAt x0 x1))∧(∀x0 x1,Calm P Any (Instr.box x0 x1))∧(∀x0,Calm P Any (Conv.bytesToString x0))∧(∀x0,Calm P Any (Conv.runesToString x0))∧(∀x0 x1 x2,Calm P Any (Conv.unsafePointer x0 x1 x2))∧(∀x0 x1,Calm P Any (Op.Complex.add x0 x1))∧(∀x0 x1,Calm P Any (Op.Complex.sub x0 x1))∧(∀x0 x1,Calm P Any (Op.Complex.mul x0 x1))∧(∀x0 x1,Calm P Any (Op.Complex.quo x0 x1))∧(∀x0 x1,Calm P Any (Instr.makeMap x0 x1))∧(∀x0 x1 x2 x3,Calm P Any (Instr.entryStore x0 x1 x2 x3)):=by
 refine⟨?_,?_,?_,?_,?_,?_,?_,?_,?_,?_,?_,?_,?_,?_,?_,?_,?_,?_⟩<;>intros
 all_goals first|unfold backFromNumber|unfold sameAddr|unfold loadVar|unfold storeVar|unfold part|unfold eL|unfold byteOf|unfold byteVariablesAt|unfold Instr.box|unfold Conv.bytesToString|unfold Conv.runesToString|unfold Conv.unsafePointer|unfold Op.Complex.add|unfold Op.Complex.sub|unfold Op.Complex.mul|unfold Op.Complex.quo|unfold Instr.makeMap|unfold Instr.entryStore
 all_goals repeat' (first|with_reducible (first|exact bG|exact dS|exact aY|exact bz|exact cJ|exact dT|exact dL|exact en|exact dM|exact dR|exact dA|exact dx|exact cS|exact cG|exact cQ|exact dr|exact(cR rfl)|exact(cL rfl)|exact lj ..|exact KC ..|exact Fs ..|exact iC ..|exact MA ..|exact vu ..|exact kP ..|exact vt ..|exact BL ..|exact wB ..|exact Iz ..|exact wV ..|exact bU ..|exact Ak ..|exact AB ..|exact nO ..|exact kI ..|exact j0 ..)|(with_reducible assumption)|(with_reducible apply dP;exact rfl)|(with_reducible refine dK ?_ (fun o ho=>by cases o<;>first|rfl|(revert ho;simp[dY];done)))|(refine cO (fun _ _=>?_) ?_)|(refine aP ?_ (fun _=>?_))|(refine eZ ?_)|(refine dZ (fun _=>?_) _)|(refine bV (fun _ _=>?_) _ _)|(refine bX (fun _ _=>?_) _ _)|(refine bW (fun _ _=>?_) _ _)|split|intro _|dsimp only|trivial)
theorem wT(x0 x1):Calm P Any (sameAddr x0 x1):=wb.2.1 x0 x1
theorem pY(x0 x1):Calm P Any (loadVar x0 x1):=wb.2.2.1 x0 x1
theorem Fo(x0 x1 x2):Calm P Any (storeVar x0 x1 x2):=wb.2.2.2.1 x0 x1 x2
theorem n9(x0 x1 x2):Calm P Any (part x0 x1 x2):=wb.2.2.2.2.1 x0 x1 x2
theorem cH{α:Type}(e):Calm P Any (eL e:jO α):=wb.2.2.2.2.2.1 e
theorem BM(x0):Calm P Any (byteOf x0):=wb.2.2.2.2.2.2.1 x0
theorem Ex(x0 x1):Calm P Any (Instr.box x0 x1):=wb.2.2.2.2.2.2.2.2.1 x0 x1
theorem sX(x0):Calm P Any (Conv.bytesToString x0):=wb.2.2.2.2.2.2.2.2.2.1 x0
theorem sW(x0):Calm P Any (Conv.runesToString x0):=wb.2.2.2.2.2.2.2.2.2.2.1 x0
theorem gD(x0 x1 x2):Calm P Any (Conv.unsafePointer x0 x1 x2):=wb.2.2.2.2.2.2.2.2.2.2.2.1 x0 x1 x2
theorem eI(x0 x1):Calm P Any (Op.Complex.add x0 x1):=wb.2.2.2.2.2.2.2.2.2.2.2.2.1 x0 x1
theorem iT(x0 x1):Calm P Any (Op.Complex.sub x0 x1):=wb.2.2.2.2.2.2.2.2.2.2.2.2.2.1 x0 x1
theorem dO(x0 x1):Calm P Any (Op.Complex.mul x0 x1):=wb.2.2.2.2.2.2.2.2.2.2.2.2.2.2.1 x0 x1
theorem fh(x0 x1):Calm P Any (Op.Complex.quo x0 x1):=wb.2.2.2.2.2.2.2.2.2.2.2.2.2.2.2.1 x0 x1
theorem xM(x0 x1):Calm P Any (Instr.makeMap x0 x1):=wb.2.2.2.2.2.2.2.2.2.2.2.2.2.2.2.2.1 x0 x1
theorem uH(x0 x1 x2 x3):Calm P Any (Instr.entryStore x0 x1 x2 x3):=wb.2.2.2.2.2.2.2.2.2.2.2.2.2.2.2.2.2 x0 x1 x2 x3
theorem zu(n t x y):Calm P Any (Op.eqGuardIn n t x y):=by
 induction n generalizing t x y with
 |zero=>unfold Op.eqGuardIn;exact bz
 |succ n ih=>
  unfold Op.eqGuardIn
  repeat' (first|with_reducible (first|exact bG|exact dS|exact aY|exact bz|exact cJ|exact dT|exact dL|exact en|exact dM|exact dR|exact dA|exact dx|exact cS|exact cG|exact cQ|exact dr|exact(cR rfl)|exact(cL rfl)|exact bU ..|exact iC ..|exact n9 ..)|(with_reducible assumption)|exact ih ..|(with_reducible apply dP;exact rfl)|(with_reducible refine dK ?_ (fun o ho=>by cases o<;>first|rfl|(revert ho;simp[dY];done)))|(refine cO (fun _ _=>?_) ?_)|(refine aP ?_ (fun _=>?_))|(refine eZ ?_)|(refine dZ (fun _=>?_) _)|(refine bV (fun _ _=>?_) _ _)|(refine bX (fun _ _=>?_) _ _)|(refine bW (fun _ _=>?_) _ _)|split|intro _|dsimp only|trivial)
theorem pF(e n t v):Calm P Any (qV e n t v):=by
 induction n generalizing t v with
 |zero=>unfold qV;exact bz
 |succ n ih=>
  unfold qV
  repeat' (first|with_reducible (first|exact bG|exact dS|exact aY|exact bz|exact cJ|exact dT|exact dL|exact en|exact dM|exact dR|exact dA|exact dx|exact cS|exact cG|exact cQ|exact dr|exact(cR rfl)|exact(cL rfl)|exact fe ..|exact bU ..|exact nz ..|exact iC ..|exact n9 ..|exact cH ..)|(with_reducible assumption)|exact ih ..|(with_reducible apply dP;exact rfl)|(with_reducible refine dK ?_ (fun o ho=>by cases o<;>first|rfl|(revert ho;simp[dY];done)))|(refine cO (fun _ _=>?_) ?_)|(refine aP ?_ (fun _=>?_))|(refine eZ ?_)|(refine dZ (fun _=>?_) _)|(refine bV (fun _ _=>?_) _ _)|(refine bX (fun _ _=>?_) _ _)|(refine bW (fun _ _=>?_) _ _)|split|intro _|dsimp only|trivial)
theorem vx(x0 x1 x2):Calm P Any (Instr.makeSlice x0 x1 x2):=by
 unfold Instr.makeSlice
 repeat' (first|with_reducible (first|exact bG|exact dS|exact aY|exact bz|exact cJ|exact dT|exact dL|exact en|exact dM|exact dR|exact dA|exact dx|exact cS|exact cG|exact cQ|exact dr|exact(cR rfl)|exact(cL rfl)|exact fe ..|exact bU ..|exact gR ..|exact iC ..|exact rp ..|exact cH ..|exact kI ..)|(with_reducible assumption)|(with_reducible apply dP;exact rfl)|(with_reducible refine dK ?_ (fun o ho=>by cases o<;>first|rfl|(revert ho;simp[dY];done)))|(refine cO (fun _ _=>?_) ?_)|(refine aP ?_ (fun _=>?_))|(refine eZ ?_)|(refine dZ (fun _=>?_) _)|(refine bV (fun _ _=>?_) _ _)|(refine bX (fun _ _=>?_) _ _)|(refine bW (fun _ _=>?_) _ _)|split|intro _|dsimp only|trivial)
theorem wF(x0 x1 x2):Calm P Any (Builtin.close_ x0 x1 x2):=by
 unfold Builtin.close_;obtain⟨l⟩:=x2;rcases l with _|⟨a,_|⟨b,_|⟨c,_|⟨d,l⟩⟩⟩⟩
 all_goals (try dsimp only)
 all_goals (try (cases a<;>try dsimp only))
 all_goals (try (rename_i r;cases r<;>try dsimp only))
 all_goals (try exact aY)
 all_goals (try exact cH _)
 repeat' (first|with_reducible (first|exact bG|exact dS|exact aY|exact bz|exact cJ|exact dT|exact dL|exact en|exact dM|exact dR|exact dA|exact dx|exact cS|exact cG|exact cQ|exact dr|exact(cR rfl)|exact(cL rfl)|exact cH ..)|(with_reducible assumption)|(with_reducible apply dP;exact rfl)|(with_reducible refine dK ?_ (fun o ho=>by cases o<;>first|rfl|(revert ho;simp[dY];done)))|(refine cO (fun _ _=>?_) ?_)|(refine aP ?_ (fun _=>?_))|(refine eZ ?_)|(refine dZ (fun _=>?_) _)|(refine bV (fun _ _=>?_) _ _)|(refine bX (fun _ _=>?_) _ _)|(refine bW (fun _ _=>?_) _ _)|split|intro _|dsimp only|trivial)
theorem pZ(x0 x1 x2):Calm P Any (Builtin.ssaWrapNilChk_ x0 x1 x2):=by
 unfold Builtin.ssaWrapNilChk_;obtain⟨l⟩:=x2;rcases l with _|⟨a,_|⟨b,_|⟨c,_|⟨d,l⟩⟩⟩⟩
 ·exact aY
 ·exact aY
 ·exact aY
 ·cases b<;>try exact aY
  cases c<;>try exact aY
  cases a<;>try exact aY
  rename_i s1 s2 r;cases r with
  |some r=>exact bG
  |none=>
   dsimp only;refine aP cS fun _=>?_
   have key : ∀(o:Option bg),Calm P Any (match o with
     |some pt=>do
      let .pointer t ←je pt|stuck "ssa:wrapnilchk: pointer type expected"
      let .named name _:=(←lY t).desc|stuck "ssa:wrapnilchk: defined type expected"
      let some m:=String.fromUTF8? s2|stuck "ssa:wrapnilchk: the method's name is not UTF-8"
      let base:=(name.splitOn "[").headD ""
      let targs:=if base==name then "" else "[...]"
      match ((base.splitOn "/").getLastD "").splitOn "." with
      |[_,typ]=>
       eL (.plain ("value method " ++ toString base ++ toString targs ++ "." ++ toString m ++ " called using nil *" ++ toString typ ++ toString targs ++ " pointer"))
      |_=>qR (.noEntry "builtin/ssaWrapNilChk.dot in the package path")
     |_=>stuck "ssa:wrapnilchk: no argument types" : jO ak):=by
    intro o;cases o with
    |none=>exact aY
    |some pt=>
     refine aP (bU ..) fun u=>?_;cases u<;>try exact aY
     refine aP (fe ..) fun u=>?_;generalize u.desc=d;cases d<;>try exact aY
     dsimp only;generalize String.fromUTF8? s2=o2;cases o2<;>try exact aY
     dsimp only
     generalize String.splitOn _ "." = sp;split
     ·exact cH _
     ·exact bz
   split
   ·exact aP (cH _) fun _=>key _
   ·exact key _
 ·exact aY
theorem tP:(∀x0 x1,Calm P Any (samePointer x0 x1))∧(∀ {α:Type} k x y c,Calm P Any (boundsPanic k x y c:jO α))∧(∀x0,Calm P Any (asAddr x0))∧(∀x0 x1 x2,Calm P Any (partAt x0 x1 x2))∧(∀x0 x1,Calm P Any (Instr.loadAt x0 x1))∧(∀x0 x1 x2,Calm P Any (Instr.storeAt x0 x1 x2))∧(∀x0 x1 x2,Calm P Any (Instr.alloc x0 x1 x2))∧(∀x0 x1,Calm P Any (Instr.build x0 x1))∧(∀x0 x1 x2,Calm P Any (Instr.buildSlice x0 x1 x2))∧(∀x0 x1 x2,Calm P Any (Instr.field x0 x1 x2))∧(∀x0 x1,Calm P Any (Op.twoPlaces x0 x1))∧(∀x0 x1 x2,Calm P Any (Op.addrMod x0 x1 x2))∧(∀x0 x1 x2 x3,Calm P Any (Op.intDiv x0 x1 x2 x3))∧(∀x0 x1 x2 x3 x4,Calm P Any (Op.shift x0 x1 x2 x3 x4))∧(∀x0 x1 x2 x3,Calm P Any (Op.Complex.product x0 x1 x2 x3))∧(∀x0 x1 x2 x3 x4,Calm P Any (Op.Complex.corrected x0 x1 x2 x3 x4))∧(∀x0 x1,Calm P Any (Op.unary x0 x1))∧(∀x0 x1,Calm P Any (Instr.makeChan x0 x1))∧(∀x0 x1 x2 x3,Calm P Any (Instr.typeAssert x0 x1 x2 x3)):=by
 refine⟨?_,?_,?_,?_,?_,?_,?_,?_,?_,?_,?_,?_,?_,?_,?_,?_,?_,?_,?_⟩<;>intros
 all_goals first|unfold samePointer|unfold boundsPanic|unfold asAddr|unfold partAt|unfold Instr.loadAt|unfold Instr.storeAt|unfold Instr.alloc|unfold Instr.build|unfold Instr.buildSlice|unfold Instr.field|unfold Op.twoPlaces|unfold Op.addrMod|unfold Op.intDiv|unfold Op.shift|unfold Op.Complex.product|unfold Op.Complex.corrected|unfold Op.unary|unfold Instr.makeChan|unfold Instr.typeAssert
 all_goals repeat' (first|with_reducible (first|exact bG|exact dS|exact aY|exact bz|exact cJ|exact dT|exact dL|exact en|exact dM|exact dR|exact dA|exact dx|exact cS|exact cG|exact cQ|exact dr|exact(cR rfl)|exact(cL rfl)|exact wT ..|exact cH ..|exact BM ..|exact pY ..|exact jT ..|exact Fo ..|exact gR ..|exact vt ..|exact bU ..|exact iC ..|exact n9 ..|exact rp ..|exact qG ..|exact fe ..|exact eI ..|exact iT ..|exact dO ..|exact sN ..|exact uw ..|exact kI ..)|(with_reducible assumption)|(with_reducible apply dP;exact rfl)|(with_reducible refine dK ?_ (fun o ho=>by cases o<;>first|rfl|(revert ho;simp[dY];done)))|(refine cO (fun _ _=>?_) ?_)|(refine aP ?_ (fun _=>?_))|(refine eZ ?_)|(refine dZ (fun _=>?_) _)|(refine bV (fun _ _=>?_) _ _)|(refine bX (fun _ _=>?_) _ _)|(refine bW (fun _ _=>?_) _ _)|split|intro _|dsimp only|trivial)
theorem Al(x0 x1):Calm P Any (samePointer x0 x1):=tP.1 x0 x1
theorem Aq{α:Type}(k x y c):Calm P Any (boundsPanic k x y c:jO α):=tP.2.1 k x y c
theorem lN(x0):Calm P Any (asAddr x0):=tP.2.2.1 x0
theorem KB(x0 x1 x2):Calm P Any (partAt x0 x1 x2):=tP.2.2.2.1 x0 x1 x2
theorem zx(x0 x1):Calm P Any (Instr.loadAt x0 x1):=tP.2.2.2.2.1 x0 x1
theorem xK(x0 x1 x2):Calm P Any (Instr.storeAt x0 x1 x2):=tP.2.2.2.2.2.1 x0 x1 x2
theorem AA(x0 x1 x2):Calm P Any (Instr.alloc x0 x1 x2):=tP.2.2.2.2.2.2.1 x0 x1 x2
theorem Az(x0 x1):Calm P Any (Instr.build x0 x1):=tP.2.2.2.2.2.2.2.1 x0 x1
theorem uI(x0 x1 x2):Calm P Any (Instr.buildSlice x0 x1 x2):=tP.2.2.2.2.2.2.2.2.1 x0 x1 x2
theorem Ay(x0 x1 x2):Calm P Any (Instr.field x0 x1 x2):=tP.2.2.2.2.2.2.2.2.2.1 x0 x1 x2
theorem zr(x0 x1):Calm P Any (Op.twoPlaces x0 x1):=tP.2.2.2.2.2.2.2.2.2.2.1 x0 x1
theorem Cj(x0 x1 x2):Calm P Any (Op.addrMod x0 x1 x2):=tP.2.2.2.2.2.2.2.2.2.2.2.1 x0 x1 x2
theorem Ev(x0 x1 x2 x3):Calm P Any (Op.intDiv x0 x1 x2 x3):=tP.2.2.2.2.2.2.2.2.2.2.2.2.1 x0 x1 x2 x3
theorem Fw(x0 x1 x2 x3 x4):Calm P Any (Op.shift x0 x1 x2 x3 x4):=tP.2.2.2.2.2.2.2.2.2.2.2.2.2.1 x0 x1 x2 x3 x4
theorem sP(x0 x1 x2 x3):Calm P Any (Op.Complex.product x0 x1 x2 x3):=tP.2.2.2.2.2.2.2.2.2.2.2.2.2.2.1 x0 x1 x2 x3
theorem l7(x0 x1 x2 x3 x4):Calm P Any (Op.Complex.corrected x0 x1 x2 x3 x4):=tP.2.2.2.2.2.2.2.2.2.2.2.2.2.2.2.1 x0 x1 x2 x3 x4
theorem Fv(x0 x1):Calm P Any (Op.unary x0 x1):=tP.2.2.2.2.2.2.2.2.2.2.2.2.2.2.2.2.1 x0 x1
theorem wE(x0 x1):Calm P Any (Instr.makeChan x0 x1):=tP.2.2.2.2.2.2.2.2.2.2.2.2.2.2.2.2.2.1 x0 x1
theorem uE(x0 x1 x2 x3):Calm P Any (Instr.typeAssert x0 x1 x2 x3):=tP.2.2.2.2.2.2.2.2.2.2.2.2.2.2.2.2.2.2 x0 x1 x2 x3
theorem rK(a b c d):Calm P Any (Op.Complex.quotient a b c d):=by
 unfold Op.Complex.quotient;refine aP (jS ..) fun t=>?_
 extract_lets jp
 have hjp : ∀x,Calm P Any (jp x):=by
  rintro⟨e,f⟩;show Calm P Any (Op.Complex.cmp BinOp.eql FloatKind.f64 c 0 >>= _);refine aP (jS ..) fun t=>aP (jS ..) fun u=>?_
  extract_lets zero
  split
  ·exact bG
  ·split
   ·exact aP (dO ..) fun _=>aP (dO ..) fun _=>bG
   ·split
    ·exact l7 ..
    ·split
     ·exact l7 ..
     ·exact bG
 clear_value jp
 cases t
 ·simp only[bF,if_false];exact aP (fh ..) fun _=>aP (dO ..) fun _=>aP (eI ..) fun _=>aP (dO ..) fun _=>aP (eI ..) fun _=>aP (fh ..) fun _=>aP (dO ..) fun _=>aP (iT ..) fun _=>aP (fh ..) fun _=>aP bG fun _=>hjp _
 ·simp only[if_true];exact aP (fh ..) fun _=>aP (dO ..) fun _=>aP (eI ..) fun _=>aP (dO ..) fun _=>aP (eI ..) fun _=>aP (fh ..) fun _=>aP (dO ..) fun _=>aP (iT ..) fun _=>aP (fh ..) fun _=>aP bG fun _=>hjp _
theorem Ch(n t x y):Calm P Any (Op.equalIn n t x y):=by
 induction n generalizing t x y with
 |zero=>unfold Op.equalIn;exact bz
 |succ n ih=>
  unfold Op.equalIn
  repeat' (first|with_reducible (first|exact bG|exact dS|exact aY|exact bz|exact cJ|exact dT|exact dL|exact en|exact dM|exact dR|exact dA|exact dx|exact cS|exact cG|exact cQ|exact dr|exact(cR rfl)|exact(cL rfl)|exact lj ..|exact wT ..|exact Al ..|exact fe ..|exact bU ..|exact nz ..|exact iC ..|exact n9 ..|exact cH ..|exact BM ..|exact gD ..)|(with_reducible assumption)|exact ih ..|(with_reducible apply dP;exact rfl)|(with_reducible refine dK ?_ (fun o ho=>by cases o<;>first|rfl|(revert ho;simp[dY];done)))|(refine cO (fun _ _=>?_) ?_)|(refine aP ?_ (fun _=>?_))|(refine eZ ?_)|(refine dZ (fun _=>?_) _)|(refine bV (fun _ _=>?_) _ _)|(refine bX (fun _ _=>?_) _ _)|(refine bW (fun _ _=>?_) _ _)|split|intro _|dsimp only|trivial)
theorem LN:(∀x0 x1,Calm P Any (fieldPlace x0 x1))∧(∀x0 x1 x2,Calm P Any (Instr.indexAt x0 x1 x2))∧(∀x0 x1 x2,Calm P Any (mS x0 x1 x2))∧(∀x0 x1 x2,Calm P Any (Op.addrSub x0 x1 x2))∧(∀x0 x1 x2,Calm P Any (Op.addrCmp x0 x1 x2))∧(∀x0 x1 x2,Calm P Any (Instr.sliceBound x0 x1 x2))∧(∀x0 x1 x2 x3 x4 x5,Calm P Any (eqGuard x0 x1 x2 x3 x4 x5)):=by
 refine⟨?_,?_,?_,?_,?_,?_,?_⟩<;>intros
 all_goals first|unfold fieldPlace|unfold Instr.indexAt|unfold mS|unfold Op.addrSub|unfold Op.addrCmp|unfold Instr.sliceBound|unfold eqGuard
 all_goals repeat' (first|with_reducible (first|exact bG|exact dS|exact aY|exact bz|exact cJ|exact dT|exact dL|exact en|exact dM|exact dR|exact dA|exact dx|exact cS|exact cG|exact cQ|exact dr|exact(cR rfl)|exact(cL rfl)|exact iC ..|exact KB ..|exact bU ..|exact Aq ..|exact zq ..|exact jT ..|exact n9 ..|exact zr ..|exact zu ..)|(with_reducible assumption)|(with_reducible apply dP;exact rfl)|(with_reducible refine dK ?_ (fun o ho=>by cases o<;>first|rfl|(revert ho;simp[dY];done)))|(refine cO (fun _ _=>?_) ?_)|(refine aP ?_ (fun _=>?_))|(refine eZ ?_)|(refine dZ (fun _=>?_) _)|(refine bV (fun _ _=>?_) _ _)|(refine bX (fun _ _=>?_) _ _)|(refine bW (fun _ _=>?_) _ _)|split|intro _|dsimp only|trivial)
theorem uu(x0 x1):Calm P Any (fieldPlace x0 x1):=LN.1 x0 x1
theorem xN(x0 x1 x2):Calm P Any (Instr.indexAt x0 x1 x2):=LN.2.1 x0 x1 x2
theorem sS(x0 x1 x2):Calm P Any (mS x0 x1 x2):=LN.2.2.1 x0 x1 x2
theorem Ci(x0 x1 x2):Calm P Any (Op.addrSub x0 x1 x2):=LN.2.2.2.1 x0 x1 x2
theorem Ck(x0 x1 x2):Calm P Any (Op.addrCmp x0 x1 x2):=LN.2.2.2.2.1 x0 x1 x2
theorem uF(x0 x1 x2):Calm P Any (Instr.sliceBound x0 x1 x2):=LN.2.2.2.2.2.1 x0 x1 x2
theorem Iu(x0 x1 x2 x3 x4 x5):Calm P Any (eqGuard x0 x1 x2 x3 x4 x5):=LN.2.2.2.2.2.2 x0 x1 x2 x3 x4 x5
theorem zv(x0 x1 x2 x3 x4 x5):Calm P Any (Op.complexOp x0 x1 x2 x3 x4 x5):=by
 unfold Op.complexOp
 repeat' (first|with_reducible (first|exact bG|exact dS|exact aY|exact bz|exact cJ|exact dT|exact dL|exact en|exact dM|exact dR|exact dA|exact dx|exact cS|exact cG|exact cQ|exact dr|exact(cR rfl)|exact(cL rfl)|exact nO ..|exact jS ..|exact vw ..|exact eI ..|exact iT ..|exact dO ..|exact fh ..|exact sP ..|exact rK ..)|(with_reducible assumption)|(with_reducible apply dP;exact rfl)|(with_reducible refine dK ?_ (fun o ho=>by cases o<;>first|rfl|(revert ho;simp[dY];done)))|(refine cO (fun _ _=>?_) ?_)|(refine aP ?_ (fun _=>?_))|(refine eZ ?_)|(refine dZ (fun _=>?_) _)|(refine bV (fun _ _=>?_) _ _)|(refine bX (fun _ _=>?_) _ _)|(refine bW (fun _ _=>?_) _ _)|split|intro _|dsimp only|trivial)
theorem WC:(∀x0 x1 x2,Calm P Any (Instr.fieldAt x0 x1 x2))∧(∀x0 x1 x2,Calm P Any (Op.equal x0 x1 x2))∧(∀x0 x1 x2 x3 x4 x5,Calm P Any (Instr.sliceBounds x0 x1 x2 x3 x4 x5)):=by
 refine⟨?_,?_,?_⟩<;>intros
 all_goals first|unfold Instr.fieldAt|unfold Op.equal|unfold Instr.sliceBounds
 all_goals repeat' (first|with_reducible (first|exact bG|exact dS|exact aY|exact bz|exact cJ|exact dT|exact dL|exact en|exact dM|exact dR|exact dA|exact dx|exact cS|exact cG|exact cQ|exact dr|exact(cR rfl)|exact(cL rfl)|exact bU ..|exact uu ..|exact jT ..|exact Ch ..|exact uF ..)|(with_reducible assumption)|(with_reducible apply dP;exact rfl)|(with_reducible refine dK ?_ (fun o ho=>by cases o<;>first|rfl|(revert ho;simp[dY];done)))|(refine cO (fun _ _=>?_) ?_)|(refine aP ?_ (fun _=>?_))|(refine eZ ?_)|(refine dZ (fun _=>?_) _)|(refine bV (fun _ _=>?_) _ _)|(refine bX (fun _ _=>?_) _ _)|(refine bW (fun _ _=>?_) _ _)|split|intro _|dsimp only|trivial)
theorem xP(x0 x1 x2):Calm P Any (Instr.fieldAt x0 x1 x2):=WC.1 x0 x1 x2
theorem wW(x0 x1 x2):Calm P Any (Op.equal x0 x1 x2):=WC.2.1 x0 x1 x2
theorem nA(x0 x1 x2 x3 x4 x5):Calm P Any (Instr.sliceBounds x0 x1 x2 x3 x4 x5):=WC.2.2 x0 x1 x2 x3 x4 x5
theorem uG(t k es i):Calm P Any (kV t k es i):=by
 induction es generalizing i with
 |nil=>unfold kV;exact bG
 |cons e es ih=>
  unfold kV
  repeat' (first|with_reducible (first|exact bG|exact dS|exact aY|exact bz|exact cJ|exact dT|exact dL|exact en|exact dM|exact dR|exact dA|exact dx|exact cS|exact cG|exact cQ|exact dr|exact(cR rfl)|exact(cL rfl)|exact wW ..)|(with_reducible assumption)|exact ih ..|(with_reducible apply dP;exact rfl)|(with_reducible refine dK ?_ (fun o ho=>by cases o<;>first|rfl|(revert ho;simp[dY];done)))|(refine cO (fun _ _=>?_) ?_)|(refine aP ?_ (fun _=>?_))|(refine eZ ?_)|(refine dZ (fun _=>?_) _)|(refine bV (fun _ _=>?_) _ _)|(refine bX (fun _ _=>?_) _ _)|(refine bW (fun _ _=>?_) _ _)|split|intro _|dsimp only|trivial)
theorem oa(x0 x1 x2 x3 x4):Calm P Any (Instr.slice x0 x1 x2 x3 x4):=by
 unfold Instr.slice
 repeat' (first|with_reducible (first|exact bG|exact dS|exact aY|exact bz|exact cJ|exact dT|exact dL|exact en|exact dM|exact dR|exact dA|exact dx|exact cS|exact cG|exact cQ|exact dr|exact(cR rfl)|exact(cL rfl)|exact bU ..|exact iC ..|exact lN ..|exact mN ..|exact eI ..|exact nA ..)|(with_reducible assumption)|(with_reducible apply dP;exact rfl)|(with_reducible refine dK ?_ (fun o ho=>by cases o<;>first|rfl|(revert ho;simp[dY];done)))|(refine cO (fun _ _=>?_) ?_)|(refine aP ?_ (fun _=>?_))|(refine eZ ?_)|(refine dZ (fun _=>?_) _)|(refine bV (fun _ _=>?_) _ _)|(refine bX (fun _ _=>?_) _ _)|(refine bW (fun _ _=>?_) _ _)|split|intro _|dsimp only|trivial)
theorem Iy(x0 x1 x2):Calm P Any (convert x0 x1 x2):=by
 unfold convert
 repeat' (first|with_reducible (first|exact bG|exact dS|exact aY|exact bz|exact cJ|exact dT|exact dL|exact en|exact dM|exact dR|exact dA|exact dx|exact cS|exact cG|exact cQ|exact dr|exact(cR rfl)|exact(cL rfl)|exact qF ..|exact bU ..|exact nB ..|exact vz ..|exact vy ..|exact xR ..|exact uJ ..|exact qK ..|exact sX ..|exact sW ..|exact sU ..|exact sT ..|exact gD ..|exact oa ..)|(with_reducible assumption)|(with_reducible apply dP;exact rfl)|(with_reducible refine dK ?_ (fun o ho=>by cases o<;>first|rfl|(revert ho;simp[dY];done)))|(refine cO (fun _ _=>?_) ?_)|(refine aP ?_ (fun _=>?_))|(refine eZ ?_)|(refine dZ (fun _=>?_) _)|(refine bV (fun _ _=>?_) _ _)|(refine bX (fun _ _=>?_) _ _)|(refine bW (fun _ _=>?_) _ _)|split|intro _|dsimp only|trivial)
theorem Ht:(∀x0 x1 x2,Calm P Any (uN x0 x1 x2))∧(∀x0 x1 x2 x3 x4,Calm P Any (Instr.sliceAt x0 x1 x2 x3 x4))∧(∀x0 x1,Calm P Any (Instr.arrayAt x0 x1))∧(∀x0 x1 x2 x3 x4,Calm P Any (qc x0 x1 x2 x3 x4))∧(∀x0,Calm P Any (Builtin.lenOf x0))∧(∀x0 x1 x2,Calm P Any (fH x0 x1 x2))∧(∀x0 x1 x2,Calm P Any (Builtin.cap_ x0 x1 x2))∧(∀x0 x1 x2,Calm P Any (Builtin.clear_ x0 x1 x2))∧(∀x0 x1 x2,Calm P Any (Builtin.len_ x0 x1 x2)):=by
 refine⟨?_,?_,?_,?_,?_,?_,?_,?_,?_⟩<;>intros
 all_goals first|unfold uN|unfold Instr.sliceAt|unfold Instr.arrayAt|unfold qc|unfold Builtin.lenOf|unfold fH|unfold Builtin.cap_|unfold Builtin.clear_|unfold Builtin.len_
 all_goals repeat' (first|with_reducible (first|exact bG|exact dS|exact aY|exact bz|exact cJ|exact dT|exact dL|exact en|exact dM|exact dR|exact dA|exact dx|exact cS|exact cG|exact cQ|exact dr|exact(cR rfl)|exact(cL rfl)|exact bU ..|exact uG ..|exact iC ..|exact jT ..|exact eI ..|exact nA ..|exact oa ..|exact cH ..|exact sZ ..|exact vu ..|exact mN ..|exact gR ..|exact kP ..)|(with_reducible assumption)|(with_reducible apply dP;exact rfl)|(with_reducible refine dK ?_ (fun o ho=>by cases o<;>first|rfl|(revert ho;simp[dY];done)))|(refine cO (fun _ _=>?_) ?_)|(refine aP ?_ (fun _=>?_))|(refine eZ ?_)|(refine dZ (fun _=>?_) _)|(refine bV (fun _ _=>?_) _ _)|(refine bX (fun _ _=>?_) _ _)|(refine bW (fun _ _=>?_) _ _)|split|intro _|dsimp only|trivial)
theorem qJ(x0 x1 x2):Calm P Any (uN x0 x1 x2):=Ht.1 x0 x1 x2
theorem xL(x0 x1 x2 x3 x4):Calm P Any (Instr.sliceAt x0 x1 x2 x3 x4):=Ht.2.1 x0 x1 x2 x3 x4
theorem xQ(x0 x1):Calm P Any (Instr.arrayAt x0 x1):=Ht.2.2.1 x0 x1
theorem uK(x0 x1 x2 x3 x4):Calm P Any (qc x0 x1 x2 x3 x4):=Ht.2.2.2.1 x0 x1 x2 x3 x4
theorem qL(x0):Calm P Any (Builtin.lenOf x0):=Ht.2.2.2.2.1 x0
theorem j3(x0 x1 x2):Calm P Any (fH x0 x1 x2):=Ht.2.2.2.2.2.1 x0 x1 x2
theorem zD(x0 x1 x2):Calm P Any (Builtin.cap_ x0 x1 x2):=Ht.2.2.2.2.2.2.1 x0 x1 x2
theorem wG(x0 x1 x2):Calm P Any (Builtin.clear_ x0 x1 x2):=Ht.2.2.2.2.2.2.2.1 x0 x1 x2
theorem rr(x0 x1 x2):Calm P Any (Builtin.len_ x0 x1 x2):=Ht.2.2.2.2.2.2.2.2 x0 x1 x2
theorem wC(x0 x1 x2):Calm P Any (Instr.mapEntry x0 x1 x2):=by
 unfold Instr.mapEntry
 repeat' (first|with_reducible (first|exact bG|exact dS|exact aY|exact bz|exact cJ|exact dT|exact dL|exact en|exact dM|exact dR|exact dA|exact dx|exact cS|exact cG|exact cQ|exact dr|exact(cR rfl)|exact(cL rfl)|exact bU ..|exact gR ..|exact cH ..|exact j0 ..|exact pF ..|exact qJ ..|exact m5 ..)|(with_reducible assumption)|(with_reducible apply dP;exact rfl)|(with_reducible refine dK ?_ (fun o ho=>by cases o<;>first|rfl|(revert ho;simp[dY];done)))|(refine cO (fun _ _=>?_) ?_)|(refine aP ?_ (fun _=>?_))|(refine eZ ?_)|(refine dZ (fun _=>?_) _)|(refine bV (fun _ _=>?_) _ _)|(refine bX (fun _ _=>?_) _ _)|(refine bW (fun _ _=>?_) _ _)|split|intro _|dsimp only|trivial)
theorem sY(x0 x1 x2):Calm P Any (Builtin.unsafeAdd_ x0 x1 x2):=by
 unfold Builtin.unsafeAdd_;obtain⟨l⟩:=x2;rcases l with _|⟨a,_|⟨b,_|⟨c,_|⟨d,l⟩⟩⟩⟩
 all_goals (try dsimp only)
 all_goals (try (cases a<;>try dsimp only))
 all_goals (try (rename_i r;cases r<;>try dsimp only))
 all_goals (try exact aY)
 all_goals (try exact cH _)
 repeat' (first|with_reducible (first|exact bG|exact dS|exact aY|exact bz|exact cJ|exact dT|exact dL|exact en|exact dM|exact dR|exact dA|exact dx|exact cS|exact cG|exact cQ|exact dr|exact(cR rfl)|exact(cL rfl)|exact BI ..|exact kI ..|exact gD ..|exact rr ..)|(with_reducible assumption)|(with_reducible apply dP;exact rfl)|(with_reducible refine dK ?_ (fun o ho=>by cases o<;>first|rfl|(revert ho;simp[dY];done)))|(refine cO (fun _ _=>?_) ?_)|(refine aP ?_ (fun _=>?_))|(refine eZ ?_)|(refine dZ (fun _=>?_) _)|(refine bV (fun _ _=>?_) _ _)|(refine bX (fun _ _=>?_) _ _)|(refine bW (fun _ _=>?_) _ _)|split|intro _|dsimp only|trivial)
theorem TR:(∀x0 x1 x2 x3,Calm P Any (Instr.lookup x0 x1 x2 x3))∧(∀x0 x1 x2 x3,Calm P Any (zM x0 x1 x2 x3))∧(∀x0 x1 x2,Calm P Any (Builtin.copy_ x0 x1 x2))∧(∀x0 x1 x2,Calm P Any (Builtin.delete_ x0 x1 x2)):=by
 refine⟨?_,?_,?_,?_⟩<;>intros
 all_goals first|unfold Instr.lookup|unfold zM|unfold Builtin.copy_|unfold Builtin.delete_
 all_goals repeat' (first|with_reducible (first|exact bG|exact dS|exact aY|exact bz|exact cJ|exact dT|exact dL|exact en|exact dM|exact dR|exact dA|exact dx|exact cS|exact cG|exact cQ|exact dr|exact(cR rfl)|exact(cL rfl)|exact bU ..|exact gR ..|exact sS ..|exact pF ..|exact qJ ..|exact cH ..|exact j0 ..|exact m5 ..|exact iC ..|exact kP ..|exact oa ..|exact qL ..|exact j3 ..)|(with_reducible assumption)|(with_reducible apply dP;exact rfl)|(with_reducible refine dK ?_ (fun o ho=>by cases o<;>first|rfl|(revert ho;simp[dY];done)))|(refine cO (fun _ _=>?_) ?_)|(refine aP ?_ (fun _=>?_))|(refine eZ ?_)|(refine dZ (fun _=>?_) _)|(refine bV (fun _ _=>?_) _ _)|(refine bX (fun _ _=>?_) _ _)|(refine bW (fun _ _=>?_) _ _)|split|intro _|dsimp only|trivial)
theorem zw(x0 x1 x2 x3):Calm P Any (Instr.lookup x0 x1 x2 x3):=TR.1 x0 x1 x2 x3
theorem oW(x0 x1 x2 x3):Calm P Any (zM x0 x1 x2 x3):=TR.2.1 x0 x1 x2 x3
theorem xT(x0 x1 x2):Calm P Any (Builtin.copy_ x0 x1 x2):=TR.2.2.1 x0 x1 x2
theorem vA(x0 x1 x2):Calm P Any (Builtin.delete_ x0 x1 x2):=TR.2.2.2 x0 x1 x2
theorem ZP:(∀x0 x1 x2,Calm P Any (movedNumber x0 x1 x2))∧(∀x0 x1 x2,Calm P Any (movedPointer x0 x1 x2)):=by
 refine⟨?_,?_⟩<;>intros
 all_goals first|unfold movedNumber|unfold movedPointer
 all_goals repeat' (first|with_reducible (first|exact bG|exact dS|exact aY|exact bz|exact cJ|exact dT|exact dL|exact en|exact dM|exact dR|exact dA|exact dx|exact cS|exact cG|exact cQ|exact dr|exact(cR rfl)|exact(cL rfl)|exact wV ..|exact lj ..|exact bU ..|exact gD ..|exact sY ..|exact wU ..)|(with_reducible assumption)|(with_reducible apply dP;exact rfl)|(with_reducible refine dK ?_ (fun o ho=>by cases o<;>first|rfl|(revert ho;simp[dY];done)))|(refine cO (fun _ _=>?_) ?_)|(refine aP ?_ (fun _=>?_))|(refine eZ ?_)|(refine dZ (fun _=>?_) _)|(refine bV (fun _ _=>?_) _ _)|(refine bX (fun _ _=>?_) _ _)|(refine bW (fun _ _=>?_) _ _)|split|intro _|dsimp only|trivial)
theorem Ao(x0 x1 x2):Calm P Any (movedNumber x0 x1 x2):=ZP.1 x0 x1 x2
theorem zn(x0 x1 x2):Calm P Any (movedPointer x0 x1 x2):=ZP.2 x0 x1 x2
theorem MB(x0 x1 x2 x3):Calm P Any (binOp x0 x1 x2 x3):=by
 unfold binOp
 repeat' (first|with_reducible (first|exact bG|exact dS|exact aY|exact bz|exact cJ|exact dT|exact dL|exact en|exact dM|exact dR|exact dA|exact dx|exact cS|exact cG|exact cQ|exact dr|exact(cR rfl)|exact(cL rfl)|exact lj ..|exact bU ..|exact Ci ..|exact Ck ..|exact Cj ..|exact qI ..|exact sO ..|exact sN ..|exact uw ..|exact Ew ..|exact Ev ..|exact Fw ..|exact sM ..|exact gD ..|exact eI ..|exact iT ..|exact dO ..|exact fh ..|exact zv ..|exact wW ..|exact Ao ..|exact zn ..)|(with_reducible assumption)|(with_reducible apply dP;exact rfl)|(with_reducible refine dK ?_ (fun o ho=>by cases o<;>first|rfl|(revert ho;simp[dY];done)))|(refine cO (fun _ _=>?_) ?_)|(refine aP ?_ (fun _=>?_))|(refine eZ ?_)|(refine dZ (fun _=>?_) _)|(refine bV (fun _ _=>?_) _ _)|(refine bX (fun _ _=>?_) _ _)|(refine bW (fun _ _=>?_) _ _)|split|intro _|dsimp only|trivial)
end
section
variable{P:aN}
theorem Sr{β:Type}{Q:β→Prop}{c:Prop}[Decidable c]{s t:jO β}(hs:Calm P Q s)(ht:Calm P Q t):Calm P Q (if c then s else t):=by
 split
 ·exact hs
 ·exact ht
theorem KF:IY .env:=fun os=>⟨.strings os.env,rfl,by simp⟩
theorem Fp:Calm P Any Instr.panicnil:=by
 unfold Instr.panicnil;refine aP (?_:Calm P Any (sys .env)) fun r=>?_
 ·exact⟨KF,fun _=>trivial⟩
 ·split
  ·exact aP cG fun _=>bG
  ·exact aY
theorem sQ(x):Calm P Any (Instr.panic x):=by
 unfold Instr.panic;split
 ·exact cJ
 ·refine aP Fp fun n=>?_;split
  ·exact cJ
  ·exact cH _
 ·exact aY
theorem Au(zeros:Bool)(x0:Array bg)(x:ak)(elem:bg)(size pg De n:Nat)(base:Option dc)(s:ak)(appended:jO (Array ak))(ha:Calm P Any appended) :
  Calm P Any (if pg+n≤De then do
    let new ←appended
    if let some a:=base then storeCells (a.add (pg*size)) new.toList
    pure (.slice base (pg+n) De)
   else do
    if ((pg+n:Nat):Int)>IntKind.i64.max∧(zeros=true∨(←lY elem).bytes=0) then eL (.error "growslice: len out of range")
    if Builtin.nextslicecap (pg+n) De*(←lY elem).bytes>2 ^ 48 then(if zeros=true then eL (.error "growslice: len out of range") else do
     if !(←qc size pg n base x) then mark .noRoom
     qR (.resourceLimit "append: a slice or a string whose bytes no memory bears"))
    let mM ←choose (.appendCap (pg+n) De elem)
    askRoom (mM*(←lY elem).bytes)
    let old ←fH size pg s;let new ←appended;let rest:=gl (←ja elem).cells (mM - (pg+n))
    pure (.slice (some (←newRow elem (old ++ new ++ rest))) (pg+n) mM:ak):jO ak):=by
 repeat' (first
   |with_reducible exact ha|with_reducible exact bG|with_reducible exact bz|with_reducible exact cS|with_reducible exact cQ|with_reducible exact dr
   |with_reducible exact cH ..|with_reducible exact fe ..|with_reducible exact gR ..|with_reducible exact rp ..|with_reducible exact kP ..|with_reducible exact j3 ..|with_reducible exact uK ..
   |(refine aP ?_ (fun _=>?_))|split|dsimp only)
theorem vB(x0 x1 x2):Calm P Any (kC x0 x1 x2):=by
 unfold kC;split
 ·rename_i afj s x _;refine aP (bU ..) fun u=>?_;split
  ·rename_i elem;split
   ·rename_i base pg De _;refine aP (iC ..) fun size=>?_
    have key : ∀(zeros:Bool) (n:Nat),Calm P Any (if pg+n≤De then do
      let new ←(if !zeros then fH size n x else if n*size=0 then pure #[] else do pure (gl (←ja elem).cells n):jO (Array ak))
      if let some a:=base then storeCells (a.add (pg*size)) new.toList
      pure (.slice base (pg+n) De)
     else do
      if ((pg+n:Nat):Int)>IntKind.i64.max∧(zeros=true∨(←lY elem).bytes=0) then eL (.error "growslice: len out of range")
      if Builtin.nextslicecap (pg+n) De*(←lY elem).bytes>2 ^ 48 then(if zeros=true then eL (.error "growslice: len out of range") else do
       if !(←qc size pg n base x) then mark .noRoom
       qR (.resourceLimit "append: a slice or a string whose bytes no memory bears"))
      let mM ←choose (.appendCap (pg+n) De elem)
      askRoom (mM*(←lY elem).bytes)
      let old ←fH size pg (.slice base pg De);let new ←(if !zeros then fH size n x else if n*size=0 then pure #[] else do pure (gl (←ja elem).cells n):jO (Array ak))
      let rest:=gl (←ja elem).cells (mM - (pg+n))
      pure (.slice (some (←newRow elem (old ++ new ++ rest))) (pg+n) mM:ak):jO ak):=by
     intro zeros n;refine Au zeros x0 x elem size pg De n base _ _ ?_;split
     ·exact j3 ..
     ·split
      ·exact bG
      ·exact aP (gR ..) fun _=>bG
    dsimp only
    repeat' (first
     |with_reducible exact bG|with_reducible exact aY|with_reducible exact cS|with_reducible exact cH ..|with_reducible exact bU ..|with_reducible exact kI ..|with_reducible exact fe ..|with_reducible exact qL ..
     |exact key _ _|(with_reducible refine Sr ?_ ?_)|(refine aP ?_ (fun _=>?_))|split)
   ·exact aY
  ·exact aY
 ·exact aY
end
def fq:Next→Prop
 |.value _|.skip|.enter ..|.recover|.comm ..=>True
 |.round _ _ _ assign body=>eb assign=true∧eb body=true
 |.defer d|.spawn d=>pE d=true
 |_=>False
structure SC(P:aN):Prop where
 body : ∀(f:eD) (fn:Func) (c:Code),P.funcs[f]?=some fn→fn.body=some c→eb c=true
 ext : ∀(f:eD) (fn:Func) (args:Array ak),P.funcs[f]?=some fn→fn.body=none→Calm P fq (fY f args)
 name : ∀(f:eD) (fn:Func),P.funcs[f]?=some fn→(fn.name == "runtime.NumGoroutine")=false
section
variable{P:aN}
theorem fR{α:Type}{Q:α→Prop}(e):Calm P Q (eL e:jO α):=by
 unfold eL
 repeat' (first
   |with_reducible exact cJ|with_reducible exact cG|with_reducible exact BL ..|with_reducible exact vt ..|(refine aP ?_ (fun _=>?_))|split|dsimp only)
theorem IB(b ats t cs args)(hb:zW b=true):Calm P fq (builtin b ats t cs args):=by
 cases b<;>first|(exact absurd hb (by decide))|skip
 all_goals unfold builtin
 all_goals dsimp only
 all_goals first
  |exact aP (vB ..) fun _=>trivial
  |exact aP (zD ..) fun _=>trivial
  |exact aP (wG ..) fun _=>trivial
  |exact aP (wF ..) fun _=>trivial
  |exact aP (xT ..) fun _=>trivial
  |exact aP (vA ..) fun _=>trivial
  |exact aP (rr ..) fun _=>trivial
  |exact aP (zB ..) fun _=>trivial
  |exact aP (zy ..) fun _=>trivial
  |exact aP (sQ ..) fun _=>trivial
  |trivial
theorem rJ(T:SC P)(f args):Calm P fq (fY f args):=by
 cases hf:P.funcs[f]? with
 |none=>
  unfold fY;refine eT (R:=fun p=>p=P) (show P=P from rfl) ?_;rintro p rfl;rw[hf];exact aY
 |some fn=>
  cases hb:fn.body with
  |none=>exact T.ext f fn args hf hb
  |some c=>
   unfold fY;refine eT (R:=fun p=>p=P) (show P=P from rfl) ?_;rintro p rfl;rw[hf];simp only[T.name f fn hf,hb,Option.isNone_some,bF,if_false];exact trivial
theorem qH(t x):Calm P Any (Place.get t x):=by
 cases x
 ·exact bG
 ·exact pY ..
theorem BJ(l t x):Calm P Any (follow l t x):=by
 induction l generalizing t x with
 |nil=>exact bG
 |cons s l ih=>
  unfold follow
  repeat' (first
   |with_reducible exact bG|with_reducible exact aY|with_reducible exact bU ..|with_reducible exact lN ..|with_reducible exact qH ..|with_reducible exact uu ..|with_reducible exact n9 ..|exact ih ..
   |(refine aP ?_ (fun _=>?_))|split)
theorem ur(a b c d):Calm P Any (receiverAt a b c d):=by
 unfold receiverAt
 repeat' (first
   |with_reducible exact bG|with_reducible exact aY|with_reducible exact bU ..|with_reducible exact lN ..|with_reducible exact qH ..|with_reducible exact pY ..|with_reducible exact pZ ..
   |(refine aP ?_ (fun _=>?_))|split)
theorem Am(a b c d):Calm P Any (receiverVia a b c d):=by
 unfold receiverVia;refine aP (BJ ..) fun _=>?_;exact ur ..
theorem KD(n t v s):Calm P Any (method n t v s):=by
 induction n generalizing t v with
 |zero=>exact bz
 |succ n ih=>
  unfold method
  repeat' (first
   |with_reducible exact bG|with_reducible exact aY|with_reducible exact cH ..|with_reducible exact fe ..|with_reducible exact BJ ..|with_reducible exact qH ..|with_reducible exact ur ..|exact ih ..
   |(refine aP ?_ (fun _=>?_))|split)
theorem Ap(l t x):Calm P Any (followBlind l t x):=by
 induction l generalizing t x with
 |nil=>exact bG
 |cons s l ih=>
  unfold followBlind
  repeat' (first
   |with_reducible exact bG|with_reducible exact aY|with_reducible exact bU ..|with_reducible exact n9 ..|exact ih ..
   |(refine aP ?_ (fun _=>?_))|split)
theorem Fq(n t v s):Calm P Any (nilAhead n t v s):=by
 induction n generalizing t v with
 |zero=>exact bG
 |succ n ih=>
  unfold nilAhead
  repeat' (first
   |with_reducible exact bG|with_reducible exact aY|with_reducible exact fe ..|with_reducible exact bU ..|with_reducible exact Ap ..|exact ih ..
   |(refine aP ?_ (fun _=>?_))|split)
theorem uv(T:SC P)(r n args):Calm P fq (callMethod r n args):=by
 unfold callMethod;split
 ·exact aP cG fun _=>aP (KD ..) fun _=>rJ T ..
 ·exact fR _
 ·exact aY
theorem lW(l):Calm P (fun r=>xm r=true) (Instr.getLoop l):=by
 unfold Instr.getLoop;refine cO (fun o ho=>?_) (dP rfl);split
 ·exact ho
 ·exact aY
theorem Mz(l args):Calm P fq (Instr.yield l args):=by
 unfold Instr.yield;refine eT (lW l) fun r hr=>?_
 have cZ:eb r.assign=true∧eb r.body=true:=by
  simp only[xm,aS] at hr;exact⟨hr.1.2,hr.2⟩
 split
 ·exact aP aY fun _=>cZ
 ·exact cZ
theorem rq(T:SC P)(t args)(ht:JE t=true):Calm P fq (invoke t args):=by
 unfold invoke;split
 ·exact fR _
 ·exact IB _ _ _ _ _ ht
 ·exact rJ T ..
 ·split
  ·exact uv T ..
  ·exact aY
 ·split
  ·refine aP (bU ..) fun _=>?_;exact uv T ..
  ·exact aY
 ·split
  ·refine aP (Am ..) fun _=>?_;exact rJ T ..
  ·exact aY
 ·exact Mz _ _
 ·exact aY
 ·cases ht
theorem lV(ρ c t)(hc:Hg c=true):Calm P (fun d=>pE d=true) (resolve ρ c t):=by
 unfold resolve;unfold Hg at hc;split
 ·rename_i b hb;rw[hb] at hc;exact hc
 ·show pE _=true;rfl
 ·unfold Deferred.ofValue;split
  ·show pE _=true;rfl
  ·show pE _=true;rfl
  ·exact aY
theorem eC{s:jO ak}(h:Calm P Any s):Calm P fq (do pure (.value (←s))):=aP h fun _=>trivial
theorem sK{s:jO Unit}(h:Calm P Any s):Calm P fq (do s;pure .skip):=aP h fun _=>trivial
theorem KE(T:SC P)(ρ o)(ho:zV o=true):Calm P fq (execOp ρ o):=by
 unfold zV at ho;unfold execOp;cases hop:o.op with
 |nilCheck x=>
  dsimp only
  repeat' (first|with_reducible exact fR _|with_reducible exact cG|with_reducible exact Fq ..|with_reducible exact bz|exact Er (show fq _ from trivial)|(refine aP ?_ (fun _=>?_))|split)|call c=>
  rw[hop] at ho;exact eT (lV _ _ _ ho) fun d hd=>rq T _ _ hd
 |go c=>
  rw[hop] at ho;exact eT (lV _ _ _ ho) fun d hd=>hd
 |defer c=>
  rw[hop] at ho;exact eT (lV _ _ _ ho) fun d hd=>hd
 |recv ct ch ok=>
  dsimp only;refine aP (bU ..) fun _=>?_;split
  ·exact aP (gR ..) fun _=>trivial
  ·exact aY
 |select cs b=>
  dsimp only;exact aP (dZ (fun _=>aP (gR ..) fun _=>bG) _) fun _=>trivial
 |pick c a b=>
  dsimp only;refine aP (BN ..) fun _=>?_;exact trivial
 |binOp op t x y u=>exact eC (aP (Iu ..) fun _=>MB ..)
 |alloc=>exact eC (AA ..)
 |box=>exact eC (Ex ..)
 |build=>exact eC (Az ..)
 |buildSlice=>exact eC (uI ..)
 |load=>exact eC (zx ..)
 |store=>exact sK (xK ..)
 |ready=>exact sK (Aw _)
 |waits=>exact eC (Av _)
 |sliceToArrayPointer=>exact eC (xQ ..)
 |makeInterface=>exact eC (rL ..)
 |makeFunc=>exact eC (wD ..)
 |makeMap=>exact eC (xM ..)
 |makeChan=>exact eC (wE ..)
 |makeSlice=>exact eC (vx ..)
 |slice=>exact eC (xL ..)
 |fieldAddr=>exact eC (xP ..)
 |field=>exact eC (Ay ..)
 |indexAddr=>exact eC (xN ..)
 |index=>exact eC (sS ..)
 |lookup=>exact eC (zw ..)
 |mapUpdate=>exact sK (oW ..)
 |insert=>exact sK (oW ..)
 |mapEntry=>exact eC (wC ..)
 |entryStore=>exact sK (uH ..)
 |range=>exact eC (Ax ..)
 |next=>exact eC (Cl ..)
 |entry=>exact eC (j0 ..)
 |typeAssert=>exact eC (uE ..)
 |extract=>exact eC (mN ..)
 |panic=>exact eC (sQ ..)
 |unOp=>exact eC (Fv ..)
 |convert=>exact eC (Iy ..)
 |move|assign|send=>exact(show fq _ from trivial)
theorem Eu(fn tmps params assign body around)(ha:eb assign=true)(hb:eb body=true):Calm P (fun r=>r.2.all pE=true) (Instr.enterLoop fn tmps params assign body around):=by
 unfold Instr.enterLoop
 extract_lets jp
 have hjp : ∀x:Nat × List Deferred,x.2.all pE=true→Calm P (fun r=>r.2.all pE=true) (jp x):=by
  rintro⟨d,m⟩ hm;refine aP (cR ?_) fun _=>hm;simp[dY,xm,ha,hb]
 clear_value jp
 split
 ·exact eT (lW _) fun _ _=>hjp _ rfl
 ·exact aP (cR rfl) fun _=>hjp _ rfl
theorem Cg(l):Calm P Any (Instr.beginRound l):=by
 unfold Instr.beginRound;refine eT (lW l) fun r hr=>aP (cL hr) fun _=>?_;split<;>first|exact bG|exact cH _
theorem Fu(l jump)(hj:jump.all eb=true):Calm P Any (Instr.endRound l jump):=by
 unfold Instr.endRound;refine eT (lW l) fun r hr=>aP (cL ?_) fun _=>bG;simp only[xm,aS] at hr;simp[dY,xm,hj,hr.1.2,hr.2]
theorem Iw(l):Calm P (fun j:Option Code=>j.all eb=true) (Instr.endLoop l):=by
 unfold Instr.endLoop;refine eT (lW l) fun r hr=>?_
 have hp:r.pending.all eb=true:=by
  simp only[xm,aS] at hr;exact hr.1.1
 dsimp only;split
 ·exact aP (fR _) fun _=>aP (cL hr) fun _=>hp
 ·exact aP (cL hr) fun _=>hp
theorem zo(l d)(hd:pE d=true):Calm P Any (Instr.deferInRound l d):=by
 unfold Instr.deferInRound;refine eT (lW l) fun r hr=>cO (fun o ho=>?_) (dP rfl);split
 ·refine cL ?_;simp only[dY,fE,hd,Bool.true_and];exact ho
 ·exact dL
 ·exact aY
theorem zl(b):Calm P (fun ds:List Deferred=>ds.all pE=true) (Instr.takeDeferred b):=by
 unfold Instr.takeDeferred;refine cO (fun o ho=>?_) (dP rfl);split
 ·exact aP (cL rfl) fun _=>ho
 ·exact aY
theorem zm(fn tmps):Calm P Any (results fn tmps):=by
 unfold results;refine aP (dZ (fun r=>?_) _) fun _=>bG;split
 ·exact bG
 ·exact aP (lN ..) fun _=>pY ..
end
def dD(w:ar):Prop:=∀(b:Nat) (o:Obj),w.heap[b]?=some o→dY o=true∨o=.coro none
def AL(B:Nat)(e:gy):Prop:=
 (∃a,e.loc=.cell a∧a.block<B)∨(∃r,e.loc=.obj r∧r<B)∨e.loc=.output∨e.loc=.mark .noRoom∨∃f,e.loc=.mark (.extern f)
theorem AL.mono{B B':Nat}{e:gy}(h:AL B e)(hB:B≤B'):AL B' e:=by
 rcases h with⟨a,h1,h2⟩|⟨r,h1,h2⟩|h|h|h
 ·exact .inl ⟨a,h1,by omega⟩
 ·exact .inr (.inl ⟨r,h1,by omega⟩)
 ·exact .inr (.inr (.inl h))
 ·exact .inr (.inr (.inr (.inl h)))
 ·exact .inr (.inr (.inr (.inr h)))
theorem NF{w:ar}{a:dc}{v:ak}(h:w.cell? a=some v):a.block<w.heap.size:=by
 unfold World.cell? at h;rcases Nat.lt_or_ge a.block w.heap.size with hl|hl
 ·exact hl
 ·rw[fX hl] at h;cases h
theorem eY{w:ar}{r:Nat}{o:Obj}(h:w.heap[r]?=some o):r<w.heap.size:=(Array.getElem?_eq_some_iff.1 h).1
theorem Dc{p:aN}{w:ar}{at_:dc}{u:bg}{k:dc}{b:Bool}{x}(h:w.seen p at_ u k b=.ok x):at_.block<w.heap.size:=by
 unfold World.seen at h;rcases Nat.lt_or_ge at_.block w.heap.size with hl|hl
 ·exact hl
 ·simp only[fX hl,Bind.bind,Except.bind,fA,Except.pure,throw,throwThe,MonadExceptOf.throw] at h
  repeat' (first|(split at h)|(cases h;done))
theorem Kk{p:aN}{w:ar}{a:dc}{b:Bool}{v:ak}{l:List dc}(h:w.farLoad p a b=.ok (v,l)) : ∀x∈l,x.block<w.heap.size:=by
 unfold World.farLoad at h;split at h
 ·rename_i at_ u _;unfold World.viewLoad at h;generalize hs:w.seen p at_ u a b=s at h;cases s with
  |error e=>simp only[Bind.bind,Except.bind] at h;cases h
  |ok s=>
   have hb:=Dc hs;obtain⟨c,e,fz,first,like,cells⟩:=s;simp only[Bind.bind,Except.bind,fA,Except.pure] at h;generalize like.ofBytes _=o at h;cases o with
   |none=>cases h
   |some v'=>
    simp only at h;cases h;intro x hx;obtain⟨y,_,rfl⟩:=List.mem_map.1 hx;exact hb
 ·cases h
theorem Ii{p:aN}{w w':ar}{a:dc}{v:ak}{b:Bool}{l:List dc}(h:w.farStore p a v b=.ok (w',l)) :
  (∀x∈l,x.block<w.heap.size)∧w'.heap.size=w.heap.size∧w'.tape=w.tape∧w'.drawn=w.drawn∧(dD w→dD w'):=by
 unfold World.farStore at h;split at h
 ·rename_i at_ u _;unfold World.viewStore at h;generalize hs:w.seen p at_ u a b=s at h;cases s with
  |error e=>by_cases ht:tight p p.depth u<;>simp only[ht] at h<;>cases h
  |ok s=>
   have hb:=Dc hs;obtain⟨c,e,fz,first,like,cells⟩:=s
   by_cases ht:tight p p.depth u
   ·simp only[ht,Bind.bind,Except.bind,fA,Except.pure] at h;simp only[Bool.not_true,bF,if_false] at h;cases hv:v.bytes? with
    |none=>rw[hv] at h;cases h
    |some bytes=>
     rw[hv] at h;simp only[] at h;split at h
     all_goals
      rename_i r hr;split at hr
      ·cases hr<;>cases h
      ·generalize (List.foldlM _ c cells:Except String (Array ak))=r' at hr;cases r'<;>cases hr<;>cases h<;>refine⟨fun x hx=>?_,by simp,rfl,rfl,fun hk b o ho=>?_⟩
       all_goals first
        |(obtain⟨y,_,rfl⟩:=List.mem_map.1 hx;exact hb)
        |(by_cases e1:at_.block=b
          ·subst e1;simp only[Array.getElem?_setIfInBounds_self_of_lt hb,Option.some.injEq] at ho;subst ho;exact .inl rfl
          ·simp only[aD e1] at ho
           exact hk _ _ ho)
   ·simp only[ht] at h;cases h
 ·cases h
class uy where
 κ:Nat→Option Obj
structure jy[K:uy](lw w:ar):Prop where
 size:lw.heap.size=w.heap.size
 os:lw.os=w.os
 out:lw.output=w.output
 at_ : ∀b:Nat,lw.heap[b]?=w.heap[b]?∨(lw.heap[b]?=some (.coro none)∧∃o,w.heap[b]?=some o∧dY o=false)
 old : ∀b x,K.κ b=some x→b<lw.heap.size
 kept : ∀b x,K.κ b=some x→lw.heap[b]?=some (.coro none)→w.heap[b]?=some x
theorem j5{o:Obj}(h:dY o=false):(∀c t f,o≠.cells c t f)∧(∀c t,o≠.pending c t)∧(∀a t,o≠.view a t)∧o.isChan=false:=by
 cases o<;>simp_all [dY,Obj.isChan]
section
variable[uy]{lw w:ar}(V:jy lw w)
include V
theorem rV(τ d):jy lw (cX w τ d):=⟨V.size,V.os,V.out,V.at_,V.old,V.kept⟩
theorem vG(a:dc):w.cell? a=lw.cell? a:=by
 unfold World.cell?;rcases V.at_ a.block with h|⟨h1,o,h2,h3⟩
 ·rw[h]
 ·have:=(j5 h3).1;rw[h1,h2];cases o<;>simp_all
theorem La(r:Nat):w.shape? r=lw.shape? r:=by
 unfold World.shape?;rcases V.at_ r with h|⟨h1,o,h2,h3⟩
 ·rw[h]
 ·have:=(j5 h3).1;rw[h1,h2];cases o<;>simp_all
theorem uP(a:dc):w.frozen? a=lw.frozen? a:=by
 unfold World.frozen?;rcases V.at_ a.block with h|⟨h1,o,h2,h3⟩
 ·rw[h]
 ·have:=(j5 h3).1;rw[h1,h2];cases o<;>simp_all
theorem FN(p:aN)(x u k b):w.seen p x u k b=lw.seen p x u k b:=by
 unfold World.seen;rcases V.at_ x.block with h|⟨h1,o,h2,h3⟩
 ·rw[h]
 ·have:=(j5 h3).1;rw[h1,h2];cases o<;>first|rfl|(exact absurd rfl (this _ _ _))
theorem NY(p:aN)(a b):w.farLoad p a b=lw.farLoad p a b:=by
 unfold World.farLoad World.noCell World.viewLoad;simp only[FN V];rcases V.at_ a.block with h|⟨h1,o,h2,h3⟩
 ·rw[h]
 ·obtain⟨h4,h5,h6,_⟩:=j5 h3;rw[h1,h2];cases o<;>first|rfl|(exact absurd rfl (h5 _ _))|(exact absurd rfl (h6 _ _))
theorem P6(o:Obj):jy { lw with heap:=lw.heap.push o } { w with heap:=w.heap.push o }:=by
 refine⟨by simp[V.size],V.os,V.out,fun b=>?_,fun b x h=>by have:=V.old b x h;simp;omega,fun b x h=>?_⟩
 ·simp only[lD,V.size];split
  ·exact .inl rfl
  ·exact V.at_ b
 ·have h1:=V.old b x h;have h2:=V.size;simp only[lD];rw[if_neg (by omega),if_neg (by omega)];exact V.kept b x h
theorem ye(r:Nat)(o:Obj)(hk:dY o=true):jy { lw with heap:=lw.heap.setIfInBounds r o } { w with heap:=w.heap.setIfInBounds r o }:=by
 refine⟨by simp[V.size],V.os,V.out,fun b=>?_,fun b x h=>by simpa using V.old b x h,fun b x h=>?_⟩
 ·by_cases e:r=b
  ·subst e;left;simp only[bD,if_true,V.size]
  ·simp only[aD e];exact V.at_ b
 ·by_cases e:r=b
  ·subst e;have h1:=V.old r x h;simp only[bD,if_true];rw[if_pos h1];intro h2;cases h2;cases hk
  ·simp only[aD e];exact V.kept b x h
theorem A2(r:Nat)(f:Obj→Obj)(hf : ∀o,(∀c t z,o≠.cells c t z)→f o=o)(hf2 : ∀o,f o=.coro none→o=.coro none):jy { lw with heap:=lw.heap.modify r f } { w with heap:=w.heap.modify r f }:=by
 refine⟨by simp[V.size],V.os,V.out,fun b=>?_,fun b x h=>by simpa using V.old b x h,fun b x h=>?_⟩
 ·simp only[py];split
  ·rename_i e;subst e;rcases V.at_ r with h|⟨h1,o,h2,h3⟩
   ·rw[h];exact .inl rfl
   ·right;refine⟨by rw[h1];simp only[ej];rw[hf];intro c t z;exact nofun,o,by rw[h2];simp only[ej];rw[hf _ (j5 h3).1],h3⟩
  ·exact V.at_ b
 ·simp only[py];split
  ·rename_i e;subst e;intro h1;obtain⟨o,h2,h3⟩:=eW.1 h1;obtain rfl:=hf2 o h3;have h4:=V.kept r x h h2;rcases V.at_ r with h5|⟨_,o,h5,h6⟩
   ·rw[h2,h4] at h5;cases h5;rw[h4];simp only[ej];rw[h3]
   ·rw[h4] at h5;cases h5;rw[h4];simp only[ej];rw[hf _ (j5 h6).1]
  ·exact V.kept b x h
theorem Ji(a:dc)(n:Nat):jy (lw.freeze a n) (w.freeze a n):=by
 unfold World.freeze;split
 ·exact V
 ·exact A2 V _ _ (fun o h=>by cases o<;>first|rfl|exact absurd rfl (h _ _ _)) fun o h=>by cases o<;>first|exact h|cases h
theorem GM(a:dc)(v:ak):jy (lw.setCell a v) (w.setCell a v):=by
 unfold jA;exact A2 V _ _ (fun o h=>by cases o<;>first|rfl|exact absurd rfl (h _ _ _)) fun o h=>by cases o<;>first|exact h|cases h
end
theorem L9{w:ar}(h:dD w){o:Obj}(ho:dY o=true):dD { w with heap:=w.heap.push o }:=fun b x hx=>by
 simp only[lD] at hx;split at hx
 ·cases hx;exact .inl ho
 ·exact h b x hx
theorem xD{w:ar}(h:dD w){r:Nat}{o:Obj}(ho:dY o=true):dD { w with heap:=w.heap.setIfInBounds r o }:=fun b x hx=>by
 by_cases e:r=b
 ·subst e;simp only[bD,if_true] at hx;split at hx
  ·cases hx;exact .inl ho
  ·cases hx
 ·simp only[aD e] at hx;exact h b x hx
theorem wP{w:ar}(h:dD w){r:Nat}{f:Obj→Obj}(hf : ∀o,dY o=true→dY (f o)=true)(hk:f (.coro none)=.coro none):dD { w with heap:=w.heap.modify r f }:=fun b x hx=>by
 simp only[py] at hx;split at hx
 ·rename_i e;subst e;obtain⟨y,hy,rfl⟩:=eW.1 hx;rcases h _ _ hy with h'|rfl
  ·exact .inl (hf _ h')
  ·exact .inr hk
 ·exact h b x hx
theorem Fc{w:ar}(h:dD w)(a:dc)(n:Nat):dD (w.freeze a n):=by
 unfold World.freeze;split
 ·exact h
 ·exact wP h (fun o ho=>by cases o<;>first|exact ho|rfl) rfl
theorem DZ{w:ar}(h:dD w)(a:dc)(v:ak):dD (w.setCell a v):=by
 unfold jA;exact wP h (fun o ho=>by cases o<;>first|exact ho|rfl) rfl
def zX{α:Type}:Except Halt α→ar→Result α
 |.ok a,w=>.ok a w
 |.error h,w=>.halt h w
def OkR{α:Type}(Q:α→Prop):Except Halt α→Prop
 |.ok a=>Q a
 |.error h=>h≠.blocked∧h≠.waiting
structure NJ[uy](P:aN){α:Type}(Q:α→Prop)(s:jO α)(lw w eM w':ar)(k:Nat)(r:Except Halt α)(new:Array gy):Prop where
 tape:eM.tape=lw.tape
 drawn:eM.drawn=lw.drawn+k
 grows:lw.heap.size≤eM.heap.size
 ok:dD eM
 evs : ∀e∈new,AL eM.heap.size e
 tG:jy eM w'
 res:OkR Q r
 lone : ∀es,s.runT P lw es=(zX r eM,es ++ new)
 many : ∀τ d,Agree k lw.tape lw.drawn τ d→∀es,s.runT P (cX w τ d) es=(zX r (cX w' τ (d+k)),es ++ new)
def UQ(P:aN){α:Type}(s:jO α)(lw:ar):Prop:=∃why eM,∀es,∃es',s.runT P lw es=(.halt (.stuck why) eM,es')
theorem Jk{c:Sys}(h:IY c)(w:ar) : ∃r,(Kernel.perform c w.os=.done (r,w.os))∧w.sys c=(r,w):=by
 obtain⟨r,h1,h2⟩:=h w.os;refine⟨r,h1,?_⟩;unfold World.sys;rw[h1];cases r<;>first|rfl|exact absurd rfl h2
section
variable{P:aN}{α:Type}{Q:α→Prop}
theorem MJ{k:Nat}{τ τ':Nat→dG→Nat}{d d':Nat}(h:Agree (k+1) τ d τ' d'):Agree k τ (d+1) τ' (d'+1):=fun i hi=>by
 have:=h (i+1) (by omega);rwa [show d+(i+1)=d+1+i by omega,show d'+(i+1)=d'+1+i by omega] at this
theorem NJ.cons[uy]{s t:jO α}{lw w nv w₁ eM w':ar}{k:Nat}{r:Except Halt α}{new:Array gy}(pre:Array gy)
  (h:NJ P Q t nv w₁ eM w' k r new) (ht:nv.tape=lw.tape) (hd:nv.drawn=lw.drawn) (hs:lw.heap.size≤nv.heap.size) (he : ∀e∈pre,AL nv.heap.size e)
  (hl : ∀es,s.runT P lw es=t.runT P nv (es ++ pre)) (hm : ∀τ d es,s.runT P (cX w τ d) es=t.runT P (cX w₁ τ d) (es ++ pre)) :
  NJ P Q s lw w eM w' k r (pre ++ new) where
 tape:=h.tape.trans ht
 drawn:=by rw[h.drawn,hd]
 grows:=Nat.le_trans hs h.grows
 ok:=h.ok
 evs e hx:=by
  rcases Array.mem_append.1 hx with hx|hx
  ·exact(he e hx).mono h.grows
  ·exact h.evs e hx
 tG:=h.tG
 res:=h.res
 lone es:=by rw[hl,h.lone,Array.append_assoc]
 many τ d ha es:=by rw[hm,h.many τ d (by rwa [ht,hd]),Array.append_assoc]
theorem UQ.cons{s t:jO α}{lw nv:ar}(pre:Array gy)(h:UQ P t nv)(hl : ∀es,s.runT P lw es=t.runT P nv (es ++ pre)):UQ P s lw:=by
 obtain⟨why,eM,h⟩:=h;exact⟨why,eM,fun es=>by rw[hl];exact h _⟩
theorem NJ.halted[uy]{lw w:ar}{h:Halt}{s:jO α}(cZ:dD lw)(V:jy lw w)(hh:h≠.blocked∧h≠.waiting)
  (hl : ∀es,s.runT P lw es=(.halt h lw,es)) (hm : ∀τ d es,s.runT P (cX w τ d) es=(.halt h (cX w τ d),es)):NJ P Q s lw w lw w 0 (.error h) #[] where
 tape:=rfl
 drawn:=rfl
 grows:=ay _
 ok:=cZ
 evs:=by simp
 tG:=V
 res:=hh
 lone es:=by rw[hl];simp only[ep];rfl
 many τ d _ es:=by rw[hm];simp only[ep];rfl
end
section
variable{P:aN}{α:Type}{Q:α→Prop}
theorem tX{B:Nat}{e:gy}(h:AL B e) : ∀x∈#[e],AL B x:=fun x hx=>by
 have:x=e:=by simpa using hx
 rw[this];exact h
theorem Gm{B:Nat}{l:List dc}{wr s:Bool}(h : ∀x∈l,x.block<B) : ∀e∈(l.toArray.map (fun a=>(⟨.cell a,wr,s⟩:gy))),AL B e:=fun e he=>by
 obtain⟨a,ha,rfl⟩:=Array.mem_map.1 he;exact .inl ⟨a,rfl,h a (by simpa using ha)⟩
theorem lK(m:Mode)(a:dc)(v:ak)(k:jO α)(h1 : ∀x,v≠.agg x)(h2 : ∀x,v≠.tuple x)(w:ar)(es:Array gy):(Sem.store m a v k).runT P w es =
  match w.cell? a with
  |some _=>
   if w.frozen? a then(.halt (.unsupported (.unsafePointer "a write to bytes that a string shares")) w,es)
   else k.runT P (w.setCell a v) (es.push ⟨.cell a,true,m == .atomic⟩)
  |none=>match w.farStore P a v (m == .atomic) with
   |.ok (w,tI)=>k.runT P w (es ++ tI.toArray.map (⟨.cell ·,true,m == .atomic⟩))
   |.error h=>(.halt h w,es):=by
 cases v<;>first|rfl|exact absurd rfl (h1 _)|exact absurd rfl (h2 _)
theorem DI{s:String}:Halt.stuck s≠.blocked∧Halt.stuck s≠.waiting:=by constructor<;>simp
theorem Hi{u:Unsupported}:Halt.unsupported u≠.blocked∧Halt.unsupported u≠.waiting:=by constructor<;>simp
def Twin(x:Nat)(W W':ar)(r r':Except String (ar × List dc)):Prop:=
 ∃r0:Except String (Obj × List dc),r=(r0.map fun y=>({ W with heap:=W.heap.setIfInBounds x y.1 },y.2))∧r'=(r0.map fun y=>({ W' with heap:=W'.heap.setIfInBounds x y.1 },y.2))∧∀y,r0=.ok y→dY y.1=true
theorem CZ(p:aN)(x:dc)(u:bg)(k:dc)(v:ak)(b:Bool)(W W':ar)(h:W'.seen p x u k b=W.seen p x u k b) :
  Twin x.block W W' (W.viewStore p x u k v b) (W'.viewStore p x u k v b):=by
 unfold World.viewStore;rw[h];generalize W.seen p x u k b=s
 by_cases ht:tight p p.depth u=true
 ·simp only[ht,Bool.not_true,bF,if_false];cases s with
  |error e=>exact⟨.error e,rfl,rfl,fun _ h=>by cases h⟩
  |ok s=>
   obtain⟨c,e,fz,first,like,cells⟩:=s;cases hv:v.bytes? with
   |none=>exact⟨.error _,rfl,rfl,fun _ h=>by cases h⟩
   |some bytes=>
    by_cases hl:some bytes.length≠like.bytes?.map (·.length)
    ·simp only[Bind.bind,Except.bind,fA,Except.pure];rw[if_pos hl,if_pos hl];exact⟨.error _,rfl,rfl,fun _ h=>by cases h⟩
    ·simp only[Bind.bind,Except.bind,fA,Except.pure];rw[if_neg hl,if_neg hl];generalize (List.foldlM _ c cells:Except String (Array ak))=r;cases r with
     |error e=>exact⟨.error e,rfl,rfl,fun _ h=>by cases h⟩
     |ok c'=>exact⟨.ok (.cells c' e fz,_),rfl,rfl,fun _ h=>by cases h;rfl⟩
 ·simp only[ht];exact⟨.error _,rfl,rfl,fun _ h=>by cases h⟩
theorem Fg[uy]{lw w:ar}(V:jy lw w)(p:aN)(a:dc)(v:ak)(b:Bool) :
  (∀e,lw.farStore p a v b=.error e→w.farStore p a v b=.error e)∧(∀eM l,lw.farStore p a v b=.ok (eM,l)→∃w',w.farStore p a v b=.ok (w',l)∧jy eM w'):=by
 unfold World.farStore World.noCell;rcases V.at_ a.block with h|⟨h1,o,h2,h3⟩
 ·rw[h];split
  ·rename_i at_ u _;obtain⟨r,hr1,hr2,hr3⟩:=CZ p at_ u a v b lw w (FN V ..);rw[hr1,hr2];cases r with
   |error e=>exact⟨fun _ h=>h,fun _ _ h=>by cases h⟩
   |ok y=>exact⟨fun _ h=>by(cases h),fun eM l hl=>by cases hl;exact⟨_,rfl,ye V _ _ (hr3 _ rfl)⟩⟩
  ·exact⟨fun e he=>he,fun eM l hl=>by cases hl⟩
 ·obtain⟨h4,h5,h6,_⟩:=j5 h3;rw[h1,h2];refine⟨fun e he=>?_,fun eM l hl=>by cases hl⟩;simp only at he;cases o<;>first|exact he|(exact absurd rfl (h5 _ _))|(exact absurd rfl (h6 _ _))
theorem Kj{w:ar}{p:aN}{a:dc}{what:String}:w.noCell a what≠.blocked∧w.noCell a what≠.waiting:=by
 unfold World.noCell;split<;>first|exact DI|exact Hi
theorem Kl{w:ar}{p:aN}{a:dc}{b:Bool}{e:Halt}(h:w.farLoad p a b=.error e):e≠.blocked∧e≠.waiting:=by
 unfold World.farLoad at h;split at h
 ·split at h
  ·cases h
  ·cases h;exact Hi
 ·cases h;exact Kj (p:=p)
theorem Ij{w:ar}{p:aN}{a:dc}{v:ak}{b:Bool}{e:Halt}(h:w.farStore p a v b=.error e):e≠.blocked∧e≠.waiting:=by
 unfold World.farStore at h;split at h
 ·split at h
  ·cases h
  ·cases h;exact Hi
 ·cases h;exact Kj (p:=p)
theorem vW[uy]{s:jO α}(hs:Calm P Q s){lw w:ar}(cZ:dD lw)(V:jy lw w):UQ P s lw∨∃eM w' k r new,NJ P Q s lw w eM w' k r new:=by
 induction s generalizing lw w with
 |pure a=>exact .inr ⟨lw,w,0,.ok a,#[],rfl,rfl,ay _,cZ,by simp,V,hs,fun es=>by simp only[ep];rfl,fun τ d _ es=>by simp only[ep];rfl⟩
 |load m a k ih=>
  cases hc:lw.cell? a with
  |some v=>
   have hw:w.cell? a=some v:=(vG V a).trans hc;have hl : ∀es,(Sem.load m a k).runT P lw es=(k v).runT P lw (es ++ #[⟨.cell a,false,m == .atomic⟩]):=fun es=>by rw[dF,hc];simp
   rcases ih v (hs v) cZ V with h|⟨eM,w',n,r,new,h⟩
   ·exact .inl (h.cons _ hl)
   ·exact .inr ⟨_,_,_,_,_,h.cons _ rfl rfl (ay _) (tX (.inl ⟨a,rfl,NF hc⟩)) hl fun τ d es=>by rw[dF,oU,hw];simp⟩
  |none=>
   have hw:w.cell? a=none:=(vG V a).trans hc;have hf:=NY V P a (m == .atomic);cases hx:lw.farLoad P a (m == .atomic) with
   |ok x=>
    obtain⟨v,l⟩:=x;rw[hx] at hf;have hl : ∀es,(Sem.load m a k).runT P lw es=(k v).runT P lw (es ++ l.toArray.map (⟨.cell ·,false,m == .atomic⟩)):=fun es=>by rw[dF,hc];simp only[hx]
    rcases ih v (hs v) cZ V with h|⟨eM,w',n,r,new,h⟩
    ·exact .inl (h.cons _ hl)
    ·exact .inr ⟨_,_,_,_,_,h.cons _ rfl rfl (ay _) (Gm (Kk hx)) hl fun τ d es=>by rw[dF,oU,hw];simp only[vq,hf]⟩
   |error e=>
    rw[hx] at hf;exact .inr ⟨_,_,_,_,_,NJ.halted cZ V (Kl hx) (fun es=>by rw[dF,hc];simp only[hx]) fun τ d es=>by rw[dF,oU,hw];simp only[vq,hf]⟩
 |store m a v k ih=>
  by_cases h1 : ∃x,v=.agg x
  ·obtain⟨x,rfl⟩:=h1;exact .inr ⟨_,_,_,_,_,NJ.halted cZ V DI (fun es=>by rw[dF]) fun τ d es=>by rw[dF]⟩
  by_cases h2 : ∃x,v=.tuple x
  ·obtain⟨x,rfl⟩:=h2;exact .inr ⟨_,_,_,_,_,NJ.halted cZ V DI (fun es=>by rw[dF]) fun τ d es=>by rw[dF]⟩
  have h1' : ∀x,v≠.agg x:=fun x e=>h1 ⟨x,e⟩;have h2' : ∀x,v≠.tuple x:=fun x e=>h2 ⟨x,e⟩;cases hc:lw.cell? a with
  |some v0=>
   have hw:w.cell? a=some v0:=(vG V a).trans hc
   by_cases hz:lw.frozen? a=true
   ·have hz':w.frozen? a=true:=(uP V a).trans hz
    exact .inr ⟨_,_,_,_,_,NJ.halted (h:=.unsupported (.unsafePointer "a write to bytes that a string shares")) cZ V Hi (fun es=>by rw[lK _ _ _ _ h1' h2',hc];simp only[hz,if_true]) fun τ d es=>by
     rw[lK _ _ _ _ h1' h2',oU,hw];simp only[xF,hz',if_true]⟩
   ·have hz1:lw.frozen? a=false:=by simpa using hz
    have hz':w.frozen? a=false:=(uP V a).trans hz1
    have hl : ∀es,(Sem.store m a v k).runT P lw es=k.runT P (lw.setCell a v) (es ++ #[⟨.cell a,true,m == .atomic⟩]):=fun es=>by
     rw[lK _ _ _ _ h1' h2',hc];simp[hz1]
    have hsz:(lw.setCell a v).heap.size=lw.heap.size:=by unfold jA;simp
    rcases ih hs (DZ cZ a v) (GM V a v) with h|⟨eM,w',n,r,new,h⟩
    ·exact .inl (h.cons _ hl)
    ·refine .inr ⟨_,_,_,_,_,h.cons _ rfl rfl (by omega) (tX (.inl ⟨a,rfl,by rw[hsz];exact NF hc⟩)) hl fun τ d es=>?_⟩;rw[lK _ _ _ _ h1' h2',oU,hw];simp only[xF,hz',bF,if_false,←Array.push_eq_append];rfl
  |none=>
   have hw:w.cell? a=none:=(vG V a).trans hc;obtain⟨hf1,hf2⟩:=Fg V P a v (m == .atomic);cases hx:lw.farStore P a v (m == .atomic) with
   |ok x=>
    obtain⟨nv,l⟩:=x;obtain⟨w₁,Rj,V₁⟩:=hf2 _ _ hx;obtain⟨g1,g2,g3,g4,g5⟩:=Ii hx
    have hl : ∀es,(Sem.store m a v k).runT P lw es=k.runT P nv (es ++ l.toArray.map (⟨.cell ·,true,m == .atomic⟩)):=fun es=>by
     rw[lK _ _ _ _ h1' h2',hc];simp only[hx]
    rcases ih hs (g5 cZ) V₁ with h|⟨eM,w',n,r,new,h⟩
    ·exact .inl (h.cons _ hl)
    ·exact .inr ⟨_,_,_,_,_,h.cons _ g3 g4 (by omega) (Gm (fun x hx=>by rw[g2];exact g1 x hx)) hl fun τ d es=>by
      rw[lK _ _ _ _ h1' h2',oU,hw];simp only[yU,Rj]
      rfl⟩
   |error e=>
    have Rj:=hf1 _ hx
    exact .inr ⟨_,_,_,_,_,NJ.halted cZ V (Ij hx) (fun es=>by rw[lK _ _ _ _ h1' h2',hc];simp only[hx]) fun τ d es=>by
     rw[lK _ _ _ _ h1' h2',oU,hw];simp only[yU,Rj]
     rfl⟩
 |new o k ih=>
  have hl : ∀es,(Sem.new o k).runT P lw es=(k lw.heap.size).runT P { lw with heap:=lw.heap.push o } (es ++ #[]):=fun es=>by rw[dF];simp
  rcases ih lw.heap.size (hs.2 _) (L9 cZ hs.1) (P6 V o) with h|⟨eM,w',n,r,new,h⟩
  ·exact .inl (h.cons _ hl)
  ·exact .inr ⟨_,_,_,_,_,h.cons _ rfl rfl (by simp) (by simp) hl fun τ d es=>by rw[dF];simp only[oK,←V.size,ep];rfl⟩
 |shape r k ih=>
  have hl : ∀es,(Sem.shape r k).runT P lw es=(k (lw.shape? r)).runT P lw (es ++ #[]):=fun es=>by rw[dF];simp
  rcases ih (lw.shape? r) (hs _) cZ V with h|⟨eM,w',n,r',new,h⟩
  ·exact .inl (h.cons _ hl)
  ·exact .inr ⟨_,_,_,_,_,h.cons _ rfl rfl (ay _) (by simp) hl fun τ d es=>by rw[dF];simp only[N6,La V,ep]⟩
 |freeze a n k ih=>
  have hl : ∀es,(Sem.freeze a n k).runT P lw es=k.runT P (lw.freeze a n) (es ++ #[]):=fun es=>by rw[dF];simp
  have hz:(lw.freeze a n).heap.size=lw.heap.size∧(lw.freeze a n).tape=lw.tape∧(lw.freeze a n).drawn=lw.drawn:=by unfold World.freeze;split<;>simp
  rcases ih hs (Fc cZ a n) (Ji V a n) with h|⟨eM,w',n',r',new,h⟩
  ·exact .inl (h.cons _ hl)
  ·refine .inr ⟨_,_,_,_,_,h.cons _ hz.2.1 hz.2.2 (by omega) (by simp) hl fun τ d es=>?_⟩;rw[dF];simp only[ep];unfold World.freeze;split<;>rfl
 |frozen a k ih=>
  have hl : ∀es,(Sem.frozen a k).runT P lw es=(k (lw.frozen? a)).runT P lw (es ++ #[]):=fun es=>by rw[dF];simp
  rcases ih (lw.frozen? a) (hs _) cZ V with h|⟨eM,w',n,r',new,h⟩
  ·exact .inl (h.cons _ hl)
  ·exact .inr ⟨_,_,_,_,_,h.cons _ rfl rfl (ay _) (by simp) hl fun τ d es=>by rw[dF];simp only[xF,uP V,ep]⟩
 |getObj r k ih=>
  cases hc:lw.heap[r]? with
  |none=>exact .inl ⟨_,lw,fun es=>⟨_,by rw[dF];simp only[hc];rfl⟩⟩
  |some o=>
   by_cases hcell : ∃c t f,o=.cells c t f
   ·obtain⟨c,t,f,rfl⟩:=hcell;exact .inl ⟨_,lw,fun es=>⟨_,by rw[dF];simp only[hc];rfl⟩⟩
   have Fa : ∀c t f,o≠.cells c t f:=fun c t f e=>hcell ⟨c,t,f,e⟩
   have hrun : ∀(x:ar) (o':Obj),x.heap[r]?=some o'→(∀c t f,o'≠.cells c t f)→∀es,(Sem.getObj r k).runT P x es=(k o').runT P x (es ++ #[⟨.obj r,false,o'.isChan⟩]):=fun x o' hx hn es=>by
    rw[dF,hx];cases o'<;>first|exact absurd rfl (hn _ _ _)|(simp only[←Array.push_eq_append])
   have hev:AL lw.heap.size (⟨.obj r,false,o.isChan⟩:gy):=.inr (.inl ⟨r,rfl,eY hc⟩);have hl:=hrun lw o hc Fa;rcases V.at_ r with hv|⟨h1,o',h2,h3⟩
   ·have hw:w.heap[r]?=some o:=hv.symm.trans hc
    have aav:Calm P Q (k o)∨EM (k o):=by
     rcases cZ r o hc with ho|rfl
     ·exact .inl (hs.1 o ho)
     ·exact hs.2.symm.imp (·.1) id
    rcases aav with hk|⟨why,hk⟩
    ·rcases ih o hk cZ V with h|⟨eM,w',n,r',new,h⟩
     ·exact .inl (h.cons _ hl)
     ·exact .inr ⟨_,_,_,_,_,h.cons _ rfl rfl (ay _) (tX hev) hl fun τ d es=>hrun (cX w τ d) o hw Fa es⟩
    ·exact .inl ⟨why,lw,fun es=>⟨_,by rw[hl,hk];rfl⟩⟩
   ·obtain rfl:o=.coro none:=Option.some.inj (hc.symm.trans h1);rcases hs.2 with⟨why,hk⟩|⟨hk,hk2⟩
    ·exact .inl ⟨why,lw,fun es=>⟨_,by rw[hl,hk];rfl⟩⟩
    ·rcases ih (.coro none) hk cZ V with h|⟨eM,w',n,r',new,h⟩
     ·exact .inl (h.cons _ hl)
     ·refine .inr ⟨_,_,_,_,_,h.cons _ rfl rfl (ay _) (tX hev) hl fun τ d es=>?_⟩;rw[hrun (cX w τ d) o' h2 (j5 h3).1 es,hk2 _ h3,(j5 h3).2.2.2];rfl
 |setObj r o k ih=>
  cases hc:lw.heap[r]? with
  |none=>exact .inl ⟨_,lw,fun es=>⟨_,by rw[dF];simp only[hc];rfl⟩⟩
  |some o0=>
   by_cases hcell : ∃c t f,o0=.cells c t f
   ·obtain⟨c,t,f,rfl⟩:=hcell;exact .inl ⟨_,lw,fun es=>⟨_,by rw[dF];simp only[hc];rfl⟩⟩
   have Fa : ∀c t f,o0≠.cells c t f:=fun c t f e=>hcell ⟨c,t,f,e⟩
   have hrun : ∀(x:ar) (o':Obj),x.heap[r]?=some o'→(∀c t f,o'≠.cells c t f)→∀es,(Sem.setObj r o k).runT P x es=k.runT P { x with heap:=x.heap.setIfInBounds r o } (es ++ #[⟨.obj r,true,o.isChan⟩]):=fun x o' hx hn es=>by
    rw[dF,hx];cases o'<;>first|exact absurd rfl (hn _ _ _)|(simp only[←Array.push_eq_append])
   have hw : ∃o',w.heap[r]?=some o'∧∀c t f,o'≠.cells c t f:=by
    rcases V.at_ r with hv|⟨h1,o',h2,h3⟩
    ·exact⟨o0,hv.symm.trans hc,Fa⟩
    ·exact⟨o',h2,(j5 h3).1⟩
   obtain⟨o',hw,hn'⟩:=hw;have hl:=hrun lw o0 hc Fa;rcases ih hs.2 (xD cZ hs.1) (ye V r o hs.1) with h|⟨eM,w',n,r',new,h⟩
   ·exact .inl (h.cons _ hl)
   ·exact .inr ⟨_,_,_,_,_,h.cons _ rfl rfl (by simp) (tX (.inr (.inl ⟨r,rfl,by simpa using eY hc⟩))) hl fun τ d es=>hrun (cX w τ d) o' hw hn' es⟩
 |choose q k ih=>
  by_cases hq:q.forced=true
  ·have hl : ∀es,(Sem.choose q k).runT P lw es=(k 0).runT P lw (es ++ #[]):=fun es=>by rw[dF];simp[hq]
   rcases ih 0 (hs 0) cZ V with h|⟨eM,w',n,r,new,h⟩
   ·exact .inl (h.cons _ hl)
   ·exact .inr ⟨_,_,_,_,_,h.cons _ rfl rfl (ay _) (by simp) hl fun τ d es=>by rw[dF];simp[hq]⟩
  ·have hl : ∀es,(Sem.choose q k).runT P lw es=(k (q.cut (lw.tape lw.drawn q))).runT P { lw with drawn:=lw.drawn+1 } es:=fun es=>by rw[dF];simp[hq]
   have V':jy { lw with drawn:=lw.drawn+1 } w:=⟨V.size,V.os,V.out,V.at_,V.old,V.kept⟩
   rcases ih (q.cut (lw.tape lw.drawn q)) (hs _) (lw:={ lw with drawn:=lw.drawn+1 }) cZ V' with⟨why,eM,h⟩|⟨eM,w',n,r,new,h⟩
   ·exact .inl ⟨why,eM,fun es=>by rw[hl];exact h es⟩
   ·refine .inr ⟨eM,w',n+1,r,new,h.tape,by rw[h.drawn];simp only[];omega,h.grows,h.ok,h.evs,h.tG,h.res,fun es=>by rw[hl,h.lone],fun τ d ha es=>?_⟩;have h0:lw.tape lw.drawn=τ d:=ha 0 (by omega);have:=h.many τ (d+1) (MJ ha) es;rw[dF];simp only[hq,bF,if_false,yz,qg,←h0];rw[show d+(n+1)=d+1+n by omega];exact this
 |sys c k ih=>
  obtain⟨x,hx1,hx2⟩:=Jk hs.1 lw;have hl : ∀es,(Sem.sys c k).runT P lw es=(k x).runT P lw (es ++ #[⟨.output,true,false⟩]):=fun es=>by rw[dF,hx2];simp
  have hm : ∀τ d es,(Sem.sys c k).runT P (cX w τ d) es=(k x).runT P (cX w τ d) (es ++ #[⟨.output,true,false⟩]):=fun τ d es=>by
   obtain⟨y,hy1,hy2⟩:=Jk hs.1 (cX w τ d)
   have:y=x:=by
    simp only[Wm,←V.os] at hy1;rw[hx1] at hy1;cases hy1;rfl
   subst this;rw[dF,hy2];simp
  rcases ih x (hs.2 x) cZ V with h|⟨eM,w',n,r,new,h⟩
  ·exact .inl (h.cons _ hl)
  ·exact .inr ⟨_,_,_,_,_,h.cons _ rfl rfl (ay _) (tX (.inr (.inr (.inl rfl)))) hl hm⟩
 |program k ih=>
  have hl : ∀es,(Sem.program k).runT P lw es=(k P).runT P lw (es ++ #[]):=fun es=>by rw[dF];simp
  rcases ih P hs cZ V with h|⟨eM,w',n,r,new,h⟩
  ·exact .inl (h.cons _ hl)
  ·exact .inr ⟨_,_,_,_,_,h.cons _ rfl rfl (ay _) (by simp) hl fun τ d es=>by rw[dF];simp⟩
 |mark m k ih=>
  have hl : ∀(x:ar) es,(Sem.mark m k).runT P x es=k.runT P x (es ++ #[⟨.mark m,false,true⟩]):=fun x es=>by rw[dF];simp
  rcases ih hs.2 cZ V with h|⟨eM,w',n,r,new,h⟩
  ·exact .inl (h.cons _ (hl lw))
  ·refine .inr ⟨_,_,_,_,_,h.cons _ rfl rfl (ay _) (tX ?_) (hl lw) fun τ d es=>hl _ es⟩;rcases hs.1 with rfl|⟨f,rfl⟩
   ·exact .inr (.inr (.inr (.inl rfl)))
   ·exact .inr (.inr (.inr (.inr ⟨f,rfl⟩)))
 |halt h=>exact .inr ⟨_,_,_,_,_,NJ.halted cZ V hs (fun es=>by rw[dF]) fun τ d es=>by rw[dF]⟩
end
def iY:Item→Bool
 |.code c=>eb c
 |.inLoop c|.inScope c=>eb c
 |.inRegion ops _=>ops.all zV
 |.inBlock _|.inRangeFunc _|.endRangeFunc _|.beginRound=>true
 |.call ..|.extern ..=>false
structure dE(fr:bP):Prop where
 todo:fr.todo.all iY=true
 defers:fr.defers.all pE=true
structure zK(g:Goroutine):Prop where
 frame:dE g.frame
 callers : ∀c∈g.callers,dE c
 status:g.status=.running∨g.status=.finished
structure Quiet(P:aN):Prop extends SC P where
 ahead:P.follows .staticDataAhead=true
 steps : ∀g,P.stepOf g=none
 enters : ∀todo,NoEnter P todo
structure Base[uy](lw eM w':ar)(k:Nat)(es:Array gy):Prop where
 tape:eM.tape=lw.tape
 drawn:eM.drawn=lw.drawn+k
 grows:lw.heap.size≤eM.heap.size
 ok:dD eM
 evs : ∀e∈es,AL eM.heap.size e
 tG:jy eM w'
def GF[uy](P:aN)(lw:ar)(s:GStep)(f:(Nat→dG→Nat)→Nat→GStep):Prop:=
 match s with
 |.ended ..=>True
 |.spawn ..=>True
 |.go g' eM es=>g'.dyingOn P∨(zK g'∧g'.dying=none∧∃w' k,Base lw eM w' k es∧∀τ d,Agree k lw.tape lw.drawn τ d→f τ d=.go g' (cX w' τ (d+k)) es)
 |.comm g' cs b sh eM es=>zK g'∧(g'.dying=none∧g'.status=.running)∧∃w' k,Base lw eM w' k es∧∀τ d,Agree k lw.tape lw.drawn τ d→f τ d=.comm g' cs b sh (cX w' τ (d+k)) es
 |_=>False
section frames
variable{fr:bP}
theorem dE.finish(h:dE fr)(v:ak):dE (fr.finish v):=by
 obtain⟨ht,hd⟩:=h;unfold Frame.finish;split
 ·rename_i e;rw[e] at ht;simp only[fE,aS] at ht;refine⟨?_,hd⟩;simp only[fE,aS];exact ht
 ·rename_i e;rw[e] at ht;simp only[fE,aS] at ht;refine⟨?_,hd⟩;simp only[fE,aS];exact ht
 ·rename_i e;rw[e] at ht;simp only[fE,aS] at ht;exact⟨ht.2,hd⟩
 ·rename_i e;rw[e] at ht;simp only[fE,aS] at ht;exact absurd ht.1 (by simp[iY])
 ·rename_i e;rw[e] at ht;simp only[fE,aS] at ht;exact absurd ht.1 (by simp[iY])
 ·exact⟨ht,hd⟩
theorem dE.raise(h:dE fr)(c:List PanicEntry):dE (fr.raise c):=by
 unfold Frame.raise;split<;>exact⟨h.todo,h.defers⟩
theorem dE.mode(h:dE fr)(m:FrameMode):dE { fr with mode:=m }:=⟨h.todo,h.defers⟩
theorem ou{P:aN}(T:Quiet P)(f:eD)(args:Array ak)(kind:CallKind):dE (Frame.enter P f args kind):=by
 refine⟨?_,rfl⟩;unfold Frame.enter;simp only[fE,List.all_nil,Bool.and_true,iY];cases hf:P.funcs[f]? with
 |none=>rfl
 |some fn=>
  cases hb:fn.body with
  |none=>simp[hb,eb]
  |some c=>simpa [hb] using T.body f fn c hf hb
theorem wR{l:Nat}{f:eD}{tmps:Array ak}{a b:Code}(ha:eb a=true)(hb:eb b=true)(kind:CallKind):dE (Frame.round l f tmps a b kind):=by
 refine⟨?_,rfl⟩;simp[Frame.round,iY,ha,hb]
theorem Ai{id:Nat} : ∀ {k k':List Item},k.all iY=true→exitTo id k=some k'→k'.all iY=true
 |[],k',_,h=>by cases h
 |x :: k,k',hk,h=>by
  simp only[fE,aS] at hk;unfold exitTo at h;split at h
  ·rename_i e;cases e;split at h
   ·cases h;exact hk.2
   ·exact Ai hk.2 h
  ·rename_i e;cases e;exact Ai hk.2 h
  ·rename_i e;cases e
theorem tW : ∀ {c:Code} {l:Nat} {c':Code},eb c=true→zL c l=some c'→eb c'=true
 |.seq a b,l,c',hc,h=>by
  simp only[eb,aS] at hc;unfold zL at h;split at h
  ·rename_i rest hr;cases h;simp only[eb,aS];exact⟨tW hc.1 hr,hc.2⟩
  ·exact tW hc.2 h
 |.label l',l,c',hc,h=>by
  unfold zL at h;split at h
  ·cases h;rfl
  ·cases h
 |.region ..,l,c',hc,h=>by unfold zL at h;cases h
 |.cond ..,l,c',hc,h=>by unfold zL at h;cases h
 |.block ..,l,c',hc,h=>by unfold zL at h;cases h
 |.loop ..,l,c',hc,h=>by unfold zL at h;cases h
 |.rangeFunc ..,l,c',hc,h=>by unfold zL at h;cases h
 |.scope ..,l,c',hc,h=>by unfold zL at h;cases h
 |.exit ..,l,c',hc,h=>by unfold zL at h;cases h
 |.goto ..,l,c',hc,h=>by unfold zL at h;cases h
 |.ret,l,c',hc,h=>by unfold zL at h;cases h
 |.skip,l,c',hc,h=>by unfold zL at h;cases h
 |.refuse ..,l,c',hc,h=>by unfold zL at h;cases h
theorem Ae{l:Nat} : ∀ {k k':List Item},k.all iY=true→gotoIn l k=some k'→k'.all iY=true
 |[],k',_,h=>by cases h
 |x :: k,k',hk,h=>by
  have hk0:=hk;simp only[fE,aS] at hk;unfold gotoIn at h;split at h
  ·rename_i body k0 e;cases e;split at h
   ·rename_i rest hr;cases h;simp only[fE,aS];exact⟨tW hk.1 hr,hk⟩
   ·exact Ae hk.2 h
  ·rename_i e;cases e;exact Ae hk.2 h
  ·rename_i e;cases e
theorem mr : ∀ {cs:List bP} {fr:bP} {v:ak} {cs':List bP},(∀c∈cs,dE c)→tryRecover fr cs=some (v,cs')→∀c∈cs',dE c
 |[],fr,v,cs',h,e=>by
  unfold tryRecover at e;split at e
  ·rename_i h1;cases h1
  ·rename_i h1;cases h1
  ·cases e
 |c0 :: rest,fr,v,cs',h,e=>by
  unfold tryRecover at e;split at e
  ·rename_i h1;cases h1;split at e
   ·cases e;intro c hc;rcases cC.1 hc with rfl|hc
    ·exact(h c0 (mH ..)).mode _
    ·exact h c (eG _ hc)
   ·cases e
  ·rename_i h1;cases h1;obtain⟨⟨v',r'⟩,hr,he⟩:=eW.1 e;cases he;intro c hc;rcases cC.1 hc with rfl|hc
   ·exact h c (mH ..)
   ·exact mr (fun c hc=>h c (eG _ hc)) hr c hc
  ·cases e
theorem lg : ∀ {cs:List bP} {l:Nat} {v:ak} {cs':List bP},(∀c∈cs,dE c)→tryRecoverLoop l cs=some (v,cs')→∀c∈cs',dE c
 |[],l,v,cs',h,e=>by cases e
 |c0 :: rest,l,v,cs',h,e=>by
  unfold tryRecoverLoop at e;obtain⟨⟨v',r'⟩,hr,he⟩:=eW.1 e;cases he;have yL : ∀c∈rest,dE c:=fun c hc=>h c (eG _ hc);intro c hc;rcases cC.1 hc with rfl|hc
  ·exact h c (mH ..)
  ·split at hr
   ·exact lg yL hr c hc
   ·split at hr
    ·exact mr yL hr c hc
    ·exact lg yL hr c hc
   ·exact lg yL hr c hc
end frames
theorem mem_seen{p:aN}{fn:eD}{es:Array gy}{e:gy}(h:e∈seen p fn es):e∈es:=by
 unfold seen at h;revert h
 have : ∀(l:List gy) (acc:Bool × Array gy),e∈(l.foldl (fun(x:Bool × Array gy) (e:gy)=>(match x with
   |(q,kept)=>match e.loc with
    |.mark (.extern f)=>((p.funcs[f]?).any (·.norace),kept)
    |_=>(q,if q && !e.sync then kept else kept.push e):Bool × Array gy)) acc).2→e∈acc.2∨e∈l:=by
  intro l
  induction l with
  |nil=>intro acc h;exact .inl h
  |cons x l ih=>
   intro acc h;rw[List.foldl_cons] at h;rcases ih _ h with h|h
   ·obtain⟨q,kept⟩:=acc;dsimp only at h;split at h
    ·exact .inl h
    ·dsimp only at h;split at h
     ·exact .inl h
     ·rcases Array.mem_push.1 h with h|rfl
      ·exact .inl h
      ·exact .inr (mH ..)
   ·exact .inr (eG _ h)
 intro h;dsimp only at h;rw[←Array.foldl_toList] at h;rcases this _ _ h with h|h
 ·simp at h
 ·simpa using h
section
variable{P:aN}{lw w:ar}
theorem Gw[uy](cZ:dD lw)(V:jy lw w):Base lw lw w 0 #[]:=⟨rfl,rfl,ay _,cZ,by simp,V⟩
theorem Qc[uy](cZ:dD lw)(V:jy lw w){g:Goroutine}(hg:zK g)(hd:g.dying=none){f}(hf : ∀τ d,f τ d=.go g (cX w τ d) #[]):GF P lw (.go g lw #[]) f:=
 .inr ⟨hg,hd,w,0,Gw cZ V,fun τ d _=>hf τ d⟩
theorem NJ.base[uy]{α:Type}{Q:α→Prop}{s:jO α}{eM w':ar}{k:Nat}{r:Except Halt α}{new:Array gy}(h:NJ P Q s lw w eM w' k r new){es:Array gy}(hes : ∀e∈es,e∈new):Base lw eM w' k es:=
 ⟨h.tape,h.drawn,h.grows,h.ok,fun e he=>h.evs e (hes e he),h.tG⟩
def ly(P:aN){α:Type}(K:Result α × Array gy→GStep)(r:Except Halt α):Prop:=∀x new,(∃o y es',K (zX r x,new)=.ended o y es')∨(∃g y es',K (zX r x,new)=.go g y es'∧g.dyingOn P)∨(∃g c y es',K (zX r x,new)=.spawn g c y es')∨
   (∃g es',zK g∧g.dying=none∧(∀e∈es',e∈new)∧∀y,K (zX r y,new)=.go g y es')∨
   (∃g cs b sh es',zK g∧(g.dying=none∧g.status=.running)∧(∀e∈es',e∈new)∧∀y,K (zX r y,new)=.comm g cs b sh y es')
theorem ly.ended{α:Type}{K:Result α × Array gy→GStep}{r:Except Halt α}(h : ∀x new,∃o y es',K (zX r x,new)=.ended o y es'):ly P K r:=fun x new=>.inl (h x new)
theorem ly.Ef{α:Type}{K:Result α × Array gy→GStep}{r:Except Halt α}(h : ∀x new,∃g y es',K (zX r x,new)=.go g y es'∧g.dyingOn P):ly P K r:=fun x new=>.inr (.inl (h x new))
theorem ly.go{α:Type}{K:Result α × Array gy→GStep}{r:Except Halt α}{g:Goroutine}(hg:zK g)(hd:g.dying=none)(es':Array gy→Array gy)(hes : ∀new e,e∈es' new→e∈new)(h : ∀y new,K (zX r y,new)=.go g y (es' new)):ly P K r:=
 fun x new=>.inr (.inr (.inr (.inl ⟨g,es' new,hg,hd,hes new,fun y=>h y new⟩)))
theorem yg[uy]{α:Type}{Q:α→Prop}{s:jO α}(hs:Calm P Q s)(cZ:dD lw)(V:jy lw w)(F:ar→GStep)
  (h : ∃K:Result α × Array gy→GStep,(∀y,F y=K (s.runT P y #[]))∧(∀why x es,∃o es',K (.halt (.stuck why) x,es)=.ended o x es')∧∀r,OkR Q r→ly P K r) :
  GF P lw (F lw) (fun τ d=>F (cX w τ d)):=by
 obtain⟨K,hrun,Nv,hK⟩:=h;simp only[hrun];rcases vW hs cZ V with⟨why,eM,h⟩|⟨eM,w',k,r,new,h⟩
 ·obtain⟨es,he⟩:=h #[];rw[he];obtain⟨o,es',h'⟩:=Nv why eM es;rw[h'];trivial
 ·have hl:=h.lone #[];rw[fJ] at hl;rw[hl];have hm : ∀τ d,Agree k lw.tape lw.drawn τ d→K (s.runT P (cX w τ d) #[])=K (zX r (cX w' τ (d+k)),new):=fun τ d ha=>by rw[h.many τ d ha #[],fJ]
  rcases hK r h.res eM new with⟨o,y,es',e⟩|⟨g,y,es',e,hd⟩|⟨g,c,y,es',e⟩|⟨g,es',hg,hd,hes,e⟩|⟨g,cs,b,sh,es',hg,hd,hes,e⟩
  ·rw[e];trivial
  ·rw[e];exact .inl hd
  ·rw[e];trivial
  ·rw[e eM];exact .inr ⟨hg,hd,w',k,h.base hes,fun τ d ha=>(hm τ d ha).trans (e _)⟩
  ·rw[e eM];exact⟨hg,hd,w',k,h.base hes,fun τ d ha=>(hm τ d ha).trans (e _)⟩
theorem yY(fr:bP)(ahead:List ByteArray)(m:String)(whole:Bool)(w:ar) : ∃g y es',dieOf fr ahead m whole w=.go g y es'∧g.dyingOn P:=⟨_,_,_,rfl,.inl rfl,_,rfl,rfl,NoEnter.nil P⟩
theorem Ce(fr:bP)(m:String)(w:ar) : ∃g y es',endThrow fr m w=.go g y es'∧g.dyingOn P:=yY _ _ _ _ _
theorem uq(fr:bP)(cs:List bP)(d:Option Dying)(m:String)(w:ar) :
  (∃o y es',endFatal P fr cs d m w=.ended o y es')∨∃g y es',endFatal P fr cs d m w=.go g y es'∧g.dyingOn P:=by
 unfold endFatal
 extract_lets
 repeat' (first|(split)|exact .inl ⟨_,_,_,rfl⟩|exact .inr (yY _ _ _ _ _))
theorem Kr(T:Quiet P)(fr:bP)(cs:List bP)(d:Option Dying)(g:Nat)(w:ar) : ∃o es',early P fr cs d g w=.ended o w es':=by
 unfold early;simp only[T.ahead,T.steps,Bool.not_true,bF,if_false];exact⟨_,_,rfl⟩
theorem fP{fr:bP}{cs:List bP}{d:Option Dying}{o}(h:dE fr)(hc : ∀c∈cs,dE c):zK { frame:=fr,callers:=cs,status:=.running,dying:=d,offers:=o }:=⟨h,hc,.inl rfl⟩
theorem CP{fr:bP}{cs:List bP}(h:dE fr)(hc : ∀c∈cs,dE c) : ∀c∈fr :: cs,dE c:=fun c hx=>by
 rcases cC.1 hx with rfl|hx
 ·exact h
 ·exact hc c hx
theorem E6{c:Prop}[Decidable c]{es:Array gy}{e:gy}(h:e∈(if c then #[] else es)):e∈es:=by
 split at h
 ·simp at h
 ·exact h
theorem r9{es:Array gy}{p:aN}{fn:eD}{c:Prop}[Decidable c]{e:gy}(h:e∈seen p fn (if c then #[] else es) ++ #[]):e∈es:=by
 rw[ep] at h;exact E6 (mem_seen h)
theorem mem_row{es:Array gy}{p:aN}{fn:eD}{c:Prop}[Decidable c] : ∀e,e∈seen p fn (if c then #[] else es) ++ #[]→e∈es:=fun e=>r9
theorem vZ[uy](T:Quiet P){fr:bP}{cs:List bP}(hfr:dE fr)(hcs : ∀c∈cs,dE c){s:jO Next}(hs:Calm P fq s)(cZ:dD lw)(V:jy lw w) :
  GF P lw (eE P true fr cs none s lw) (fun τ d=>eE P true fr cs none s (cX w τ d)):=by
 refine yg hs cZ V (fun y=>eE P true fr cs none s y) ⟨?K,fun y=>?_,?_,?_⟩
 rotate_left
 ·unfold eE;simp only[if_true];generalize s.runT P y #[]=x;exact rfl
 ·intro why x es;exact⟨_,_,rfl⟩
 ·intro r hr;cases r with
  |ok n=>
   cases n with
   |value v=>exact ly.go (fP (hfr.finish v) hcs) rfl _ (fun _=>mem_row) fun y new=>rfl
   |skip=>exact ly.go (fP (hfr.finish undef) hcs) rfl _ (fun _=>mem_row) fun y new=>rfl
   |enter f args=>exact ly.go (fP (ou T f args _) (CP hfr hcs)) rfl _ (fun _=>mem_row) fun y new=>rfl
   |round l f tmps a b=>exact ly.go (fP (wR hr.1 hr.2 _) (CP hfr hcs)) rfl _ (fun _=>mem_row) fun y new=>rfl
   |defer d=>exact ly.go (fP (dE.finish (fr:={ fr with defers:=d :: fr.defers }) ⟨hfr.todo,by rw[fE,hfr.defers,Bool.and_true];exact hr⟩ undef) hcs) rfl _ (fun _=>mem_row) fun y new=>rfl
   |recover=>
    intro x new
    have key : ∀X:Option (ak × List bP),(∀v cs',X=some (v,cs')→∀c∈cs',dE c)→∀es:Array gy,(∀e∈es ++ #[],e∈new)→
      ∃g es',zK g∧g.dying=none∧(∀e∈es',e∈new)∧∀y,GStep.after es (match X with
       |some (v,callers)=>GStep.go { frame:=fr.finish v,callers,status:=.running,dying:=none } y
       |none=>GStep.go { frame:=fr.finish .nilIface,callers:=cs,status:=.running,dying:=none } y)=.go g y es':=by
     intro X hX es hes;cases X with
     |none=>exact⟨_,_,fP (hfr.finish .nilIface) hcs,rfl,hes,fun y=>rfl⟩
     |some z=>exact⟨_,_,fP (hfr.finish z.1) (hX z.1 z.2 rfl),rfl,hes,fun y=>rfl⟩
    refine .inr (.inr (.inr (.inl ?_)));cases hro:fr.roundOf with
    |none=>
     simp only[zX,hro];exact key (tryRecover fr cs) (fun v cs' e=>mr hcs e) _ fun e=>r9
    |some l=>
     by_cases hf:P.follows .rangeFuncRecover=true
     ·simp only[zX,hro,hf,if_true];exact key (tryRecover fr cs) (fun v cs' e=>mr hcs e) _ fun e=>r9
     ·simp only[zX,hro,hf,if_false];exact key (tryRecoverLoop l cs) (fun v cs' e=>lg hcs e) _ fun e=>r9
   |comm c b sh=>exact fun x new=>.inr (.inr (.inr (.inr ⟨_,_,_,_,_,fP hfr hcs,⟨rfl,rfl⟩,fun e=>r9,fun y=>rfl⟩)))
   |spawn d=>
    intro x new;dsimp only[zX];generalize (P.follows .goNilFatal&&_&&d.args.isEmpty&&fr.noResult P)=c;cases c with
    |true=>
     obtain⟨g,y,es',e,hd⟩:=Ce (P:=P) fr "go of nil func value" x;exact .inr (.inl ⟨g,y,_,by rw[if_pos rfl,e];rfl,hd⟩)
    |false=>exact .inr (.inr (.inl ⟨_,_,_,_,rfl⟩))
   |_=>exact hr.elim
  |error h=>
   cases h with
   |panic v=>exact ly.go (fP (hfr.raise _) hcs) rfl _ (fun _=>mem_row) fun y new=>rfl
   |goexit=>exact ly.go (fP (hfr.raise _) hcs) rfl _ (fun _=>mem_row) fun y new=>rfl
   |blocked=>exact absurd rfl hr.1
   |waiting=>exact absurd rfl hr.2
   |exit c=>exact ly.ended fun x new=>⟨_,_,_,rfl⟩
   |fatal m=>
    intro x new;dsimp only[zX];rcases uq (P:=P) fr cs none m x with⟨o,y,es',e⟩|⟨g,y,es',e,hd⟩
    ·rw[e];exact .inl ⟨_,_,_,rfl⟩
    ·rw[e];exact .inr (.inl ⟨_,_,_,rfl,hd⟩)
   |throw m=>exact ly.Ef fun x new=>⟨_,_,_,rfl,.inl rfl,_,rfl,rfl,NoEnter.nil P⟩
   |unsupported u=>
    intro x new;dsimp only[zX];cases u with
    |initOrder g=>
     dsimp only;obtain⟨o,es',e⟩:=Kr T fr cs none g x;rw[e];exact .inl ⟨_,_,_,rfl⟩
    |_=>exact .inl ⟨_,_,_,rfl⟩
   |stuck s=>exact ly.ended fun x new=>⟨_,_,_,rfl⟩
end
end Go.Lag
