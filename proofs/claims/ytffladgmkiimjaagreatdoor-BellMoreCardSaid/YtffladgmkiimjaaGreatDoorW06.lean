/- The tape: what a program of the model's own monad yields hangs on the  .. -/
import Derived.DyingOn
import Derived.Conc.Beside
set_option linter.all false
set_option maxHeartbeats 0
set_option maxRecDepth 1000000
open Array renaming mem_append -> IJ,getElem?_setIfInBounds_ne -> aB,getElem?_eq_getElem -> aN,getElem?_eq_some_iff -> ag,getElem?_setIfInBounds -> bD,getElem?_setIfInBounds_self_of_lt -> bg,append_empty -> eA,empty_append -> fD,getElem?_eq_none -> fS,getElem?_map -> kF,getElem?_push -> lS,getElem?_modify -> qs
open Bool renaming and_eq_true -> aI,false_eq_true -> bF
open Classical renaming byContradiction -> fH
open Go renaming findLabel -> BA,choose -> Bp,Goroutine -> aC,Program -> aK,TypeId -> aV,Value -> ai,World -> ak,Frame -> bY,Question -> dV,Addr -> dc,runtimePanic -> eO,FuncId -> en,stepG -> fE,callFunc -> fT,Event -> gO,Sem -> iZ,zeroValue -> jl,underlying -> jr,typeInfo -> lG,unwind -> mM,CommCase -> nA,communicate -> nu,step -> oV,unsupported -> rY,doReturn -> vw
open Go.Builtin renaming lenOf -> Ev,firstCells -> eU,zeroCells -> f_,append_ -> kO,mayShare -> qL
open Go.Conc renaming mem_ofEvents -> CS,runT_crowd_go -> Ep,solo_eq_crowd -> n_,crowd -> rZ,solo -> yh
open Go.Frame renaming enter -> eL
open Go.GStep renaming after -> CR
open Go.Instr renaming mapUpdate -> BF,findKey -> Eu,indexAt -> eX,findAsking -> jH,index -> nw,checkKey -> ou,loadAt -> wy
open Go.MemAct renaming ofEvent -> gq
open Go.MemOp renaming ofEvents -> iQ
open Go.Sem renaming runT -> dO
open Go.World renaming setCell -> kJ
open Go.stepG renaming exec -> cM,apply -> eH,oper -> fC
open List renaming mem_cons -> bQ,getElem_mem -> bS,getElem?_eq_getElem -> bT,mem_cons_of_mem -> bW,length_pos_iff -> dB,mem_cons_self -> dJ,mem_map -> dW,all_cons -> ej,mem_toArray -> fp,not_mem_nil -> g_,mem_filter -> kK,getD_eq_getElem?_getD -> oq
open Nat renaming lt_or_ge -> CQ,le_trans -> aG,le_refl -> aJ,lt_of_lt_of_le -> bA,zero_add -> dz,eq_zero_or_pos -> jv,add_assoc -> oa
open Option renaming map_some -> dK,map_eq_some_iff -> eW
open Option.some renaming inj -> aT,injEq -> ia
open Pure renaming pure -> fo
namespace Go
def oN{p:Prop}(h:p:=by omega):p:=h
def kN{p:Prop}(h:p:=by kernel_rfl):p:=h
def sN{p:Prop}(h:p:=by simp):p:=h
def dN{p:Prop}(h:p:=by decide):p:=h
def sP{p:Prop}(h:p:=by simp;omega):p:=h
end Go
namespace Go.Lag
def dR(w:ak)(I:Nat->dV->Nat)(d:Nat):World:={ w with tape:=I,drawn:=d }
def Agree(n:Nat)(I:Nat->dV->Nat)(d:Nat)(I':Nat->dV->Nat)(d':Nat):Prop:=∀i,i<n->I (d+i)=I' (d'+i)
def Agree.le{n m:Nat}{I I':Nat->dV->Nat}{d d':Nat}(h:Agree n I d I' d')(hm:m<=n):Agree m I d I' d':=fun i hi=>h i (bA hi hm)
@[simp] theorem pw (w:ak) (I:Nat->dV->Nat) (d:Nat):(dR w I d).heap=w.heap:=rfl
@[simp] theorem abl (w:ak) (I:Nat->dV->Nat) (d:Nat):(dR w I d).os=w.os:=rfl
@[simp] theorem Al (w:ak) (I:Nat->dV->Nat) (d:Nat):(dR w I d).tape=I:=rfl
@[simp] theorem qP (w:ak) (I:Nat->dV->Nat) (d:Nat):(dR w I d).drawn=d:=rfl
def rK(w:ak)(I:Nat->dV->Nat)(d:Nat)(a:dc):(dR w I d).cell? a=w.cell? a:=rfl
def zn(w:ak)(I:Nat->dV->Nat)(d:Nat)(a:dc):(dR w I d).frozen? a=w.frozen? a:=rfl
def Sc(w:ak)(I:Nat->dV->Nat)(d:Nat)(r:Nat):(dR w I d).shape? r=w.shape? r:=rfl
def DG(p:aK)(w:ak)(I:Nat->dV->Nat)(d:Nat)(a:dc)(b:Bool):(dR w I d).farLoad p a b=w.farLoad p a b:=rfl
def UJ(p:aK)(w:ak)(I:Nat->dV->Nat)(d:Nat)(x:dc)(u:aV)(k:dc)(b:Bool):(dR w I d).seen p x u k b=w.seen p x u k b:=rfl
def Ho(p:aK)(w:ak)(I:Nat->dV->Nat)(d:Nat)(x:dc)(u:aV)(k:dc)(v:ai)(b:Bool) :
  (dR w I d).viewStore p x u k v b=(w.viewStore p x u k v b).map fun(w',l)=>(dR w' I d,l):=by
 unfold World.viewStore;simp only[UJ];generalize w.seen p x u k b=s;cases s with
 |error e=>by_cases h:tight p p.depth u<;>simp only[h]<;>rfl
 |ok s=>
  obtain⟨c,e,fz,first,like,cells⟩:=s
  by_cases h:tight p p.depth u
  .simp only[h,Bind.bind,Except.bind,fo,Except.pure];simp only[Bool.not_true,bF,if_false];cases v.bytes? with
   |none=>rfl
   |some bytes=>
    simp only[];split
    .rfl
    generalize (List.foldlM _ c cells:Except String (Array ai))=r;cases r<;>rfl
  simp only[h];rfl
def AU(p:aK)(w:ak)(I:Nat->dV->Nat)(d:Nat)(a:dc)(v:ai)(b:Bool) :
  (dR w I d).farStore p a v b=(w.farStore p a v b).map fun(w',l)=>(dR w' I d,l):=by
 unfold World.farStore;simp only[pw];split
 .rw[Ho];generalize w.viewStore p _ _ a v b=r;cases r<;>rfl
 rfl
def BQ:Builtin->Bool
 |.append|.cap|.clear|.close|.copy|.delete|.len|.max|.min|.recover|.panic=>true
 |_=>false
def Kh(c:Call):Bool:=
 match c.callee with
 |.builtin b=>BQ b
 |_=>true
def BP(o:Oper):Bool:=
 match o.op with
 |.call c|.go c|.defer c=>Kh c
 |_=>true
def eo:Code->Bool
 |.region _ aM _=>aM.all BP
 |.seq a b=>eo a&&eo b
 |.cond _ a b=>eo a&&eo b
 |.block _ c=>eo c
 |.loop c=>eo c
 |.rangeFunc _ _ a b=>eo a&&eo b
 |.scope c=>eo c
 |_=>true
def Mt:Target->Bool
 |.builtin b ..=>BQ b
 |.coroexit _=>false
 |_=>true
def qx(d:Deferred):Bool:=Mt d.target
def za(l:Loop):Bool:=(l.pending.all eo)&&eo l.assign&&eo l.body
def gg:Obj->Bool
 |.loop l=>za l
 |.deferred (some ds)=>ds.all qx
 |.coro _=>false
 |.finalizers ..=>false
 |_=>true
def Lu(c:Sys):Prop:=∀os,∃r,Kernel.perform c os=.done (r,os)/\r≠.wouldBlock
def He{α:Type}(s:iZ α):Prop:=∃why,s=.halt (.stuck why)
def Calm(P:aK){α:Type}(Q:α->Prop):iZ α->Prop
 |.pure a=>Q a
 |.load _ _ k=>∀v,Calm P Q (k v)
 |.store _ _ _ k=>Calm P Q k
 |.new o k=>gg o=true/\∀r,Calm P Q (k r)
 |.shape _ k=>∀s,Calm P Q (k s)
 |.freeze _ _ k=>Calm P Q k
 |.frozen _ k=>∀b,Calm P Q (k b)
 |.getObj _ k=>(∀o,gg o=true->Calm P Q (k o))/\(He (k (.coro none))\/(Calm P Q (k (.coro none))/\∀o,gg o=false->k o=k (.coro none)))
 |.setObj _ o k=>gg o=true/\Calm P Q k
 |.choose _ k=>∀n,Calm P Q (k n)
 |.sys c k=>Lu c/\∀r,Calm P Q (k r)
 |.program k=>Calm P Q (k P)
 |.mark m k=>(m=.noRoom\/∃f,m=.extern f)/\Calm P Q k
 |.halt h=>h≠.blocked/\h≠.waiting
def Gone(P:aK){α:Type}(Q:α->Prop)(f:Obj->iZ α):Prop:=He (f (.coro none))\/(Calm P Q (f (.coro none))/\∀o,gg o=false->f o=f (.coro none))
def nI{P:aK}{α:Type}{Q:α->Prop}{f:Obj->iZ α}{w:String}(h:f (.coro none)=.halt (.stuck w)):Gone P Q f:=.inl ⟨w,h⟩
def rF{P:aK}{α:Type}{Q:α->Prop}{f:Obj->iZ α}(h:Calm P Q (f (.coro none)))(h2:∀o,gg o=false->f o=f (.coro none)):Gone P Q f:=.inr ⟨h,h2⟩
abbrev Any{α:Type}:α->Prop:=fun _=>True
section
variable{P:aK}{α β:Type}{Q:β->Prop}
theorem fg{R:α->Prop}{s:iZ α}{f:α->iZ β}(hs:Calm P R s)(hf:∀a,R a->Calm P Q (f a)):Calm P Q (s >>= f):=by
 show Calm P Q (s.bind f)
 induction s with
 |pure a=>exact hf a hs
 |load m a k ih=>exact fun v=>ih v (hs v)
 |store m a v k ih=>exact ih hs
 |new o k ih=>exact⟨hs.1,fun r=>ih r (hs.2 r)⟩
 |shape r k ih=>exact fun s=>ih s (hs s)
 |freeze a n k ih=>exact ih hs
 |frozen a k ih=>exact fun b=>ih b (hs b)
 |getObj r k ih=>
  refine⟨fun o ho=>ih o (hs.1 o ho),hs.2.imp (fun⟨why,hw⟩=>⟨why,by show(k (.coro none)).bind f=_;rw[hw];rfl⟩) fun⟨h1,h2⟩=>⟨ih _ h1,fun o ho=>?_⟩⟩;show(k o).bind f=(k (.coro none)).bind f;rw[h2 o ho]
 |setObj r o k ih=>exact⟨hs.1,ih hs.2⟩
 |choose q k ih=>exact fun n=>ih n (hs n)
 |sys c k ih=>exact⟨hs.1,fun r=>ih r (hs.2 r)⟩
 |program k ih=>exact ih P hs
 |mark m k ih=>exact⟨hs.1,ih hs.2⟩
 |halt h=>exact hs
theorem aQ{s:iZ α}{f:α->iZ β}(hs:Calm P Any s)(hf:∀a,Calm P Q (f a)):Calm P Q (s >>= f):=fg hs fun a _=>hf a
theorem cZ{a:α}:Calm P Any (fo a:iZ α):=trivial
theorem vh{a:α}:Calm P Any (Sem.pure a:iZ α):=trivial
theorem Gw{a:β}(h:Q a):Calm P Q (fo a:iZ β):=h
theorem xg{s:iZ α}{f:α->β}(hs:Calm P Any s):Calm P Any (Functor.map f s):=fg (Q:=Any) hs fun _ _=>trivial
theorem bG{w:String}:Calm P Q (stuck w:iZ β):=⟨sN,sN⟩
theorem eb{u:Unsupported}:Calm P Q (rY u:iZ β):=⟨sN,sN⟩
theorem kZ{v:ai}:Calm P Q (goPanic v:iZ β):=⟨sN,sN⟩
theorem vo{w:String}:Calm P Q (fatal w:iZ β):=⟨sN,sN⟩
theorem rL{w:String}:Calm P Q (throw w:iZ β):=⟨sN,sN⟩
theorem uC{a:dc}{m:Mode}:Calm P Any (load a m):=fun _=>trivial
theorem rM{a:dc}{v:ai}{m:Mode}:Calm P Any (store a v m):=trivial
theorem mr{o:Obj}(h:gg o=true):Calm P Any (newObj o):=⟨h,fun _=>trivial⟩
theorem vg{r:Nat}:Calm P Any (shape r):=fun _=>trivial
theorem sU{a:dc}{n:Nat}:Calm P Any (freeze a n):=trivial
theorem sT{a:dc}:Calm P Any (frozen a):=fun _=>trivial
theorem kI{r:Nat}{f:Obj->iZ β}(h:∀o,gg o=true->Calm P Q (f o))(hk:Gone P Q f):Calm P Q (getObj r >>= f):=⟨h,hk⟩
theorem jk{r:Nat}{o:Obj}(h:gg o=true):Calm P Any (setObj r o):=⟨h,trivial⟩
theorem mA{q:dV}:Calm P Any (Bp q):=fun _=>trivial
theorem jK:Calm P Any program:=trivial
theorem n9{n:Nat}:Calm P Any (askRoom n):=by
 unfold askRoom;split
 .exact⟨.inl rfl,trivial⟩
 trivial
theorem p_:Calm P Any (mark .noRoom):=⟨.inl rfl,trivial⟩
theorem Gy{f:α->iZ β}(hf:∀a,Calm P Any (f a))(l:List α):Calm P Any (l.mapM f):=by
 rw[<-List.mapM'_eq_mapM]
 induction l with
 |nil=>exact cZ
 |cons a l ih=>exact aQ (hf a) fun _=>aQ ih fun _=>cZ
theorem qT{f:α->iZ β}(hf:∀a,Calm P Any (f a))(l:Array α):Calm P Any (l.mapM f):=by
 rw[Array.mapM_eq_mapM_toList];exact xg (Gy hf _)
theorem DU{γ:Type}{f:β->γ->iZ β}(hf:∀a b,Calm P Any (f a b))(b:β)(l:List γ):Calm P Any (l.foldlM f b):=by
 induction l generalizing b with
 |nil=>exact cZ
 |cons a l ih=>exact aQ (hf b a) fun _=>ih _
theorem jI{γ:Type}{f:γ->β->iZ (ForInStep β)}(hf:∀a b,Calm P Any (f a b))(l:List γ)(b:β):Calm P Any (forIn l b f):=by
 induction l generalizing b with
 |nil=>exact cZ
 |cons a l ih=>
  rw[List.forIn_cons];refine aQ (hf a b) fun r=>?_;cases r with
  |done b=>exact cZ
  |yield b=>exact ih b
theorem mL{γ:Type}{f:γ->β->iZ (ForInStep β)}(hf:∀a b,Calm P Any (f a b))(l:Array γ)(b:β):Calm P Any (forIn l b f):=by
 rw[<-Array.forIn_toList];exact jI hf _ _
theorem mK{f:Nat->β->iZ (ForInStep β)}(hf:∀a b,Calm P Any (f a b))(l:Std.Legacy.Range)(b:β):Calm P Any (forIn l b f):=by
 rw[Std.Legacy.Range.forIn_eq_forIn_range'];exact jI hf _ _
end
section
variable{P:aK}
class K (P:aK) {α:Type} (s:iZ α):Prop where
 c:Calm P Any s
theorem bM{p:Prop}(h:p:=by
  repeat' (first|exact K.c|with_reducible (first|exact cZ|exact vh|exact bG|exact eb|exact kZ|exact vo|exact rL|exact uC|exact rM|exact vg|exact sU|exact sT|exact mA|exact jK|exact n9|exact p_|exact(mr rfl)|exact(jk rfl)|assumption)|exact ih ..|(with_reducible apply nI;exact rfl)|(with_reducible refine rF ?_ (fun o ho=>by cases o<;>first|rfl|(revert ho;simp[gg];done)))|(refine kI (fun _ _=>?_) ?_)|(refine aQ ?_ (fun _=>?_))|(refine xg ?_)|(refine qT (fun _=>?_) _)|(refine jI (fun _ _=>?_) _ _)|(refine mL (fun _ _=>?_) _ _)|(refine mK (fun _ _=>?_) _ _)|split|intro _|dsimp only|trivial)):p:=h
instance (a):K P (viewAt a):=⟨by unfold viewAt;exact bM⟩
instance (a):K P (numberAt a):=⟨by unfold numberAt;exact bM⟩
instance (a):K P (cellsIn a):=⟨by unfold cellsIn;exact bM⟩
instance (a b):K P (asNumber a b):=⟨by unfold asNumber;exact bM⟩
instance (a):K P (behindNumber a):=⟨by unfold behindNumber;exact bM⟩
instance (a):K P (backFromNumber a):=⟨by unfold backFromNumber;exact bM⟩
instance (a):K P (noView a):=⟨by unfold noView;exact bM⟩
instance (a):K P (markStringish a):=⟨by unfold markStringish;exact bM⟩
instance (a):K P (stringish a):=⟨by unfold stringish;exact bM⟩
instance (a b):K P (mayBeOne a b):=⟨by unfold mayBeOne;exact bM⟩
instance (a b):K P (sameAddr a b):=⟨by unfold sameAddr;exact bM⟩
instance (a b):K P (samePointer a b):=⟨by unfold samePointer;exact bM⟩
instance (a):K P (lG a):=⟨by unfold lG;exact bM⟩
theorem jR(x0):Calm P Any (lG x0):=K.c
instance (a):K P (jr a):=⟨by unfold jr;exact bM⟩
theorem ik(x0):Calm P Any (jr x0):=K.c
instance (a):K P (cutType a):=⟨by unfold cutType;exact bM⟩
instance (a):K P (globalAddr a):=⟨by unfold globalAddr;exact bM⟩
instance (a):K P (typeStr a):=⟨by unfold typeStr;exact bM⟩
theorem ve(x0):Calm P Any (typeStr x0):=K.c
instance (a):K P (jl a):=⟨by unfold jl;exact bM⟩
theorem nZ(x0):Calm P Any (jl x0):=K.c
instance (a):K P (sizeOf a):=⟨by unfold sizeOf;exact bM⟩
theorem NQ(x0):Calm P Any (sizeOf x0):=K.c
instance (a):K P (isAgg a):=⟨by unfold isAgg;exact bM⟩
theorem zv(a i n acc):Calm P Any (loadCellsFrom a i n acc):=by
 induction n generalizing i acc with
 |zero=>exact cZ
 |succ n ih=>exact aQ uC fun _=>ih _ _
instance (a i n acc):K P (loadCellsFrom a i n acc):=⟨zv a i n acc⟩
instance (a b):K P (loadCells a b):=⟨by unfold loadCells;exact bM⟩
theorem vK(a vs i):Calm P Any (storeCells a vs i):=by
 induction vs generalizing i with
 |nil=>exact cZ
 |cons v vs ih=>exact aQ rM fun _=>ih _
instance (a vs i):K P (storeCells a vs i):=⟨vK a vs i⟩
instance (a b):K P (loadVar a b):=⟨by unfold loadVar;exact bM⟩
theorem vn(x0 x1):Calm P Any (loadVar x0 x1):=K.c
instance (a b c):K P (storeVar a b c):=⟨by unfold storeVar;exact bM⟩
instance (a b):K P (newRow a b):=⟨by unfold newRow;exact bM⟩
theorem NT(x0 x1):Calm P Any (newRow x0 x1):=K.c
instance (a b):K P (newVar a b):=⟨by unfold newVar;exact bM⟩
theorem NS(x0 x1):Calm P Any (newVar x0 x1):=K.c
instance (a):K P (elemOf a):=⟨by unfold elemOf;exact bM⟩
theorem NW(x0):Calm P Any (elemOf x0):=K.c
instance (a b c):K P (part a b c):=⟨by unfold part;exact bM⟩
theorem Jv(x0 x1 x2):Calm P Any (part x0 x1 x2):=K.c
instance {α:Type} (m):K P (panicString m:iZ α):=⟨by unfold panicString;exact bM⟩
instance {α:Type} (e):K P (eO e:iZ α):=⟨by unfold eO;exact bM⟩
theorem iU{α:Type}(e):Calm P Any (eO e:iZ α):=K.c
instance {α:Type} (k x y c):K P (boundsPanic k x y c:iZ α):=⟨by unfold boundsPanic;exact bM⟩
instance (a):K P (asIntOf a):=⟨by unfold asIntOf;exact bM⟩
instance (a):K P (asInt a):=⟨by unfold asInt;exact bM⟩
theorem rN(x0):Calm P Any (asInt x0):=K.c
instance (a):K P (asBool a):=⟨by unfold asBool;exact bM⟩
theorem NY(x0):Calm P Any (asBool x0):=K.c
instance (a):K P (asString a):=⟨by unfold asString;exact bM⟩
theorem ly(x0):Calm P Any (asString x0):=K.c
instance (a):K P (asAgg a):=⟨by unfold asAgg;exact bM⟩
theorem vp(x0):Calm P Any (asAgg x0):=K.c
instance (a):K P (asAddr a):=⟨by unfold asAddr;exact bM⟩
theorem nK(x0):Calm P Any (asAddr x0):=K.c
instance (a):K P (byteOf a):=⟨by unfold byteOf;exact bM⟩
instance (a b c):K P (partAt a b c):=⟨by unfold partAt;exact bM⟩
instance (a b):K P (fieldPlace a b):=⟨by unfold fieldPlace;exact bM⟩
theorem Ej(x0 x1):Calm P Any (fieldPlace x0 x1):=K.c
instance (a b c):K P (variablesAt a b c):=⟨by unfold variablesAt;exact bM⟩
instance (a b c):K P (intVariablesAt a b c):=⟨by unfold intVariablesAt;exact bM⟩
instance (a b):K P (byteVariablesAt a b):=⟨by unfold byteVariablesAt;exact bM⟩
theorem Gz(a acc n):Calm P Any (loadBytes a acc n):=by
 induction n generalizing acc a with
 |zero=>unfold loadBytes;exact cZ
 |succ n ih=>
  unfold loadBytes
  all_goals exact bM
instance (a acc n):K P (loadBytes a acc n):=⟨Gz a acc n⟩
instance (a b):K P (storeBytes a b):=⟨by unfold storeBytes;exact bM⟩
instance (a):K P (Instr.sureAddr a):=⟨by unfold Instr.sureAddr;exact bM⟩
instance (a b):K P (wy a b):=⟨by unfold wy;exact bM⟩
theorem Be(x0 x1):Calm P Any (wy x0 x1):=K.c
instance (a b c):K P (Instr.storeAt a b c):=⟨by unfold Instr.storeAt;exact bM⟩
theorem zw(x0 x1 x2):Calm P Any (Instr.storeAt x0 x1 x2):=K.c
instance (a b c):K P (Instr.fieldAt a b c):=⟨by unfold Instr.fieldAt;exact bM⟩
theorem zB(x0 x1 x2):Calm P Any (Instr.fieldAt x0 x1 x2):=K.c
instance (a b c):K P (eX a b c):=⟨by unfold eX;exact bM⟩
theorem zA(x0 x1 x2):Calm P Any (eX x0 x1 x2):=K.c
instance (a b c):K P (Instr.alloc a b c):=⟨by unfold Instr.alloc;exact bM⟩
theorem CA(x0 x1 x2):Calm P Any (Instr.alloc x0 x1 x2):=K.c
instance (a b):K P (Instr.box a b):=⟨by unfold Instr.box;exact bM⟩
theorem GG(x0 x1):Calm P Any (Instr.box x0 x1):=K.c
instance (a b):K P (Instr.build a b):=⟨by unfold Instr.build;exact bM⟩
theorem Cz(x0 x1):Calm P Any (Instr.build x0 x1):=K.c
instance (a b c):K P (Instr.buildSlice a b c):=⟨by unfold Instr.buildSlice;exact bM⟩
theorem wa(x0 x1 x2):Calm P Any (Instr.buildSlice x0 x1 x2):=K.c
instance (a):K P (Instr.entry a):=⟨by unfold Instr.entry;exact bM⟩
theorem Cw(x0):Calm P Any (Instr.entry x0):=K.c
instance (a b):K P (Instr.extract a b):=⟨by unfold Instr.extract;exact bM⟩
theorem zC(x0 x1):Calm P Any (Instr.extract x0 x1):=K.c
instance (a b c):K P (Instr.field a b c):=⟨by unfold Instr.field;exact bM⟩
theorem Cv(x0 x1 x2):Calm P Any (Instr.field x0 x1 x2):=K.c
instance (a b c):K P (nw a b c):=⟨by unfold nw;exact bM⟩
theorem Cu(x0 x1 x2):Calm P Any (nw x0 x1 x2):=K.c
instance (a b):K P (Op.twoPlaces a b):=⟨by unfold Op.twoPlaces;exact bM⟩
instance (a b c):K P (Op.addrSub a b c):=⟨by unfold Op.addrSub;exact bM⟩
instance (a b c):K P (Op.addrCmp a b c):=⟨by unfold Op.addrCmp;exact bM⟩
instance (a b c):K P (Op.addrMod a b c):=⟨by unfold Op.addrMod;exact bM⟩
instance (a b c d):K P (Op.floatArith a b c d):=⟨by unfold Op.floatArith;exact bM⟩
instance (a b c d):K P (Op.floatCmp a b c d):=⟨by unfold Op.floatCmp;exact bM⟩
instance (a b c d):K P (Op.intArith a b c d):=⟨by unfold Op.intArith;exact bM⟩
instance (a b c d):K P (Op.intBits a b c d):=⟨by unfold Op.intBits;exact bM⟩
instance (a b c):K P (Op.intCmp a b c):=⟨by unfold Op.intCmp;exact bM⟩
instance (a b c d):K P (Op.intDiv a b c d):=⟨by unfold Op.intDiv;exact bM⟩
instance (a b c d e):K P (Op.shift a b c d e):=⟨by unfold Op.shift;exact bM⟩
instance (a b c):K P (Op.stringOp a b c):=⟨by unfold Op.stringOp;exact bM⟩
instance (a b c):K P (Conv.floatToFloat a b c):=⟨by unfold Conv.floatToFloat;exact bM⟩
instance (a b c):K P (Conv.floatToInt a b c):=⟨by unfold Conv.floatToInt;exact bM⟩
instance (a b):K P (Conv.intToFloat a b):=⟨by unfold Conv.intToFloat;exact bM⟩
instance (a b):K P (Conv.intToInt a b):=⟨by unfold Conv.intToInt;exact bM⟩
instance (a):K P (Conv.intToString a):=⟨by unfold Conv.intToString;exact bM⟩
instance (a b c d):K P (Conv.complexToComplex a b c d):=⟨by unfold Conv.complexToComplex;exact bM⟩
instance (a):K P (Conv.bytesToString a):=⟨by unfold Conv.bytesToString;exact bM⟩
instance (a):K P (Conv.runesToString a):=⟨by unfold Conv.runesToString;exact bM⟩
instance (a b):K P (Conv.stringToBytes a b):=⟨by unfold Conv.stringToBytes;exact bM⟩
instance (a b):K P (Conv.stringToRunes a b):=⟨by unfold Conv.stringToRunes;exact bM⟩
instance (a):K P (Conv.seenAt a):=⟨by unfold Conv.seenAt;exact bM⟩
instance (a b c):K P (Conv.unsafePointer a b c):=⟨by unfold Conv.unsafePointer;exact bM⟩
instance (a b c d):K P (Op.Complex.arith a b c d):=⟨by unfold Op.Complex.arith;exact bM⟩
instance (a b c d):K P (Op.Complex.cmp a b c d):=⟨by unfold Op.Complex.cmp;exact bM⟩
instance (a b c):K P (Op.Complex.conv a b c):=⟨by unfold Op.Complex.conv;exact bM⟩
instance (a b):K P (Op.Complex.add a b):=⟨by unfold Op.Complex.add;exact bM⟩
instance (a b):K P (Op.Complex.sub a b):=⟨by unfold Op.Complex.sub;exact bM⟩
instance (a b):K P (Op.Complex.mul a b):=⟨by unfold Op.Complex.mul;exact bM⟩
instance (a b):K P (Op.Complex.quo a b):=⟨by unfold Op.Complex.quo;exact bM⟩
instance (a b c d):K P (Op.Complex.product a b c d):=⟨by unfold Op.Complex.product;exact bM⟩
instance (a b c d e):K P (Op.Complex.corrected a b c d e):=⟨by unfold Op.Complex.corrected;exact bM⟩
theorem tI(a b c d):Calm P Any (Op.Complex.quotient a b c d):=by
 unfold Op.Complex.quotient;refine aQ (K.c) fun t=>?_
 extract_lets jp
 have hjp:∀x,Calm P Any (jp x):=by
  rintro⟨e,f⟩;show Calm P Any (Op.Complex.cmp BinOp.eql FloatKind.f64 c 0 >>= _);refine aQ (K.c) fun t=>aQ (K.c) fun u=>?_
  extract_lets zero
  split
  .exact cZ
  split
  .exact aQ (K.c) fun _=>aQ (K.c) fun _=>cZ
  split
  .exact K.c
  split
  .exact K.c
  exact cZ
 clear_value jp
 cases t
 .simp only[bF,if_false];exact aQ (K.c) fun _=>aQ (K.c) fun _=>aQ (K.c) fun _=>aQ (K.c) fun _=>aQ (K.c) fun _=>aQ (K.c) fun _=>aQ (K.c) fun _=>aQ (K.c) fun _=>aQ (K.c) fun _=>aQ cZ fun _=>hjp _
 simp only[if_true];exact aQ (K.c) fun _=>aQ (K.c) fun _=>aQ (K.c) fun _=>aQ (K.c) fun _=>aQ (K.c) fun _=>aQ (K.c) fun _=>aQ (K.c) fun _=>aQ (K.c) fun _=>aQ (K.c) fun _=>aQ cZ fun _=>hjp _
instance (a b c d):K P (Op.Complex.quotient a b c d):=⟨tI a b c d⟩
instance (a b c d e i):K P (Op.complexOp a b c d e i):=⟨by unfold Op.complexOp;exact bM⟩
instance (a b):K P (Op.unary a b):=⟨by unfold Op.unary;exact bM⟩
theorem Ip(x0 x1):Calm P Any (Op.unary x0 x1):=K.c
theorem El(n t x y):Calm P Any (Op.equalIn n t x y):=by
 induction n generalizing t x y with
 |zero=>unfold Op.equalIn;exact eb
 |succ n ih=>
  unfold Op.equalIn
  all_goals exact bM
instance (n t x y):K P (Op.equalIn n t x y):=⟨El n t x y⟩
instance (a b c):K P (Op.equal a b c):=⟨by unfold Op.equal;exact bM⟩
theorem Bc(n t x y):Calm P Any (Op.eqGuardIn n t x y):=by
 induction n generalizing t x y with
 |zero=>unfold Op.eqGuardIn;exact eb
 |succ n ih=>
  unfold Op.eqGuardIn
  all_goals exact bM
instance (n t x y):K P (Op.eqGuardIn n t x y):=⟨Bc n t x y⟩
theorem yf(e n t v):Calm P Any (ou e n t v):=by
 induction n generalizing t v with
 |zero=>unfold ou;exact eb
 |succ n ih=>
  unfold ou
  all_goals exact bM
instance (e n t v):K P (ou e n t v):=⟨yf e n t v⟩
theorem vZ(t k es i):Calm P Any (jH t k es i):=by
 induction es generalizing i with
 |nil=>unfold jH;exact cZ
 |cons e es ih=>
  unfold jH
  all_goals exact bM
instance (t k es i):K P (jH t k es i):=⟨vZ t k es i⟩
instance (a b c):K P (Eu a b c):=⟨by unfold Eu;exact bM⟩
instance (a b c d):K P (Instr.lookup a b c d):=⟨by unfold Instr.lookup;exact bM⟩
theorem Bd(x0 x1 x2 x3):Calm P Any (Instr.lookup x0 x1 x2 x3):=K.c
instance (a b):K P (Instr.makeChan a b):=⟨by unfold Instr.makeChan;exact bM⟩
theorem ye(x0 x1):Calm P Any (Instr.makeChan x0 x1):=K.c
instance (a b c):K P (Instr.makeFunc a b c):=⟨by unfold Instr.makeFunc;exact bM⟩
theorem yb(x0 x1 x2):Calm P Any (Instr.makeFunc x0 x1 x2):=K.c
instance (a b):K P (Instr.makeInterface a b):=⟨by unfold Instr.makeInterface;exact bM⟩
theorem tJ(x0 x1):Calm P Any (Instr.makeInterface x0 x1):=K.c
instance (a b):K P (Instr.makeMap a b):=⟨by unfold Instr.makeMap;exact bM⟩
theorem zy(x0 x1):Calm P Any (Instr.makeMap x0 x1):=K.c
instance (a b c):K P (Instr.makeSlice a b c):=⟨by unfold Instr.makeSlice;exact bM⟩
theorem xi(x0 x1 x2):Calm P Any (Instr.makeSlice x0 x1 x2):=K.c
instance (a b):K P (Instr.keyThatStays a b):=⟨by unfold Instr.keyThatStays;exact bM⟩
instance (a b c d):K P (BF a b c d):=⟨by unfold BF;exact bM⟩
theorem qa(x0 x1 x2 x3):Calm P Any (BF x0 x1 x2 x3):=K.c
instance (a b c):K P (Instr.mapEntry a b c):=⟨by unfold Instr.mapEntry;exact bM⟩
theorem ya(x0 x1 x2):Calm P Any (Instr.mapEntry x0 x1 x2):=K.c
instance (a b c d):K P (Instr.entryStore a b c d):=⟨by unfold Instr.entryStore;exact bM⟩
theorem v_(x0 x1 x2 x3):Calm P Any (Instr.entryStore x0 x1 x2 x3):=K.c
instance (a b c):K P (Instr.next a b c):=⟨by unfold Instr.next;exact bM⟩
theorem Em(x0 x1 x2):Calm P Any (Instr.next x0 x1 x2):=K.c
instance (a):K P (Instr.waits a):=⟨by unfold Instr.waits;exact bM⟩
theorem Cr(x0):Calm P Any (Instr.waits x0):=K.c
instance (a):K P (Instr.ready a):=⟨by unfold Instr.ready;exact bM⟩
theorem Ct(x0):Calm P Any (Instr.ready x0):=K.c
instance (a b c):K P (Instr.sliceBound a b c):=⟨by unfold Instr.sliceBound;exact bM⟩
instance (a b c d e i):K P (Instr.sliceBounds a b c d e i):=⟨by unfold Instr.sliceBounds;exact bM⟩
instance (a b c d e):K P (Instr.slice a b c d e):=⟨by unfold Instr.slice;exact bM⟩
instance (a b c d e):K P (Instr.sliceAt a b c d e):=⟨by unfold Instr.sliceAt;exact bM⟩
theorem zx(x0 x1 x2 x3 x4):Calm P Any (Instr.sliceAt x0 x1 x2 x3 x4):=K.c
instance (a b):K P (Instr.arrayAt a b):=⟨by unfold Instr.arrayAt;exact bM⟩
theorem zD(x0 x1):Calm P Any (Instr.arrayAt x0 x1):=K.c
instance (a b):K P (Builtin.holdsCells a b):=⟨by unfold Builtin.holdsCells;exact bM⟩
instance (a b c d e):K P (qL a b c d e):=⟨by unfold qL;exact bM⟩
theorem wb(x0 x1 x2 x3 x4):Calm P Any (qL x0 x1 x2 x3 x4):=K.c
instance (a):K P (Ev a):=⟨by unfold Ev;exact bM⟩
theorem zE(x0):Calm P Any (Ev x0):=K.c
instance (a b c):K P (eU a b c):=⟨by unfold eU;exact bM⟩
theorem nL(x0 x1 x2):Calm P Any (eU x0 x1 x2):=K.c
instance (a b c):K P (Builtin.cap_ a b c):=⟨by unfold Builtin.cap_;exact bM⟩
theorem Bg(x0 x1 x2):Calm P Any (Builtin.cap_ x0 x1 x2):=K.c
instance (a b c):K P (Builtin.clear_ a b c):=⟨by unfold Builtin.clear_;exact bM⟩
theorem yg(x0 x1 x2):Calm P Any (Builtin.clear_ x0 x1 x2):=K.c
theorem qy(x0 x1 x2):Calm P Any (Builtin.close_ x0 x1 x2):=by
 unfold Builtin.close_;obtain⟨l⟩:=x2;rcases l with _|⟨a,_|⟨b,_|⟨c,_|⟨d,l⟩⟩⟩⟩
 all_goals (try dsimp only)
 all_goals (try (cases a<;>try dsimp only))
 all_goals (try (rename_i r;cases r<;>try dsimp only))
 all_goals (try exact bG)
 all_goals (try exact K.c)
 all_goals exact bM
instance (x0 x1 x2):K P (Builtin.close_ x0 x1 x2):=⟨qy x0 x1 x2⟩
instance (a b c):K P (Builtin.copy_ a b c):=⟨by unfold Builtin.copy_;exact bM⟩
theorem zF(x0 x1 x2):Calm P Any (Builtin.copy_ x0 x1 x2):=K.c
instance (a b c):K P (Builtin.delete_ a b c):=⟨by unfold Builtin.delete_;exact bM⟩
theorem xj(x0 x1 x2):Calm P Any (Builtin.delete_ x0 x1 x2):=K.c
instance (a b c):K P (Builtin.len_ a b c):=⟨by unfold Builtin.len_;exact bM⟩
theorem Bf(x0 x1 x2):Calm P Any (Builtin.len_ x0 x1 x2):=K.c
instance (a b):K P (Builtin.max2 a b):=⟨by unfold Builtin.max2;exact bM⟩
instance (a b):K P (Builtin.min2 a b):=⟨by unfold Builtin.min2;exact bM⟩
theorem sX(x0 x1 x2):Calm P Any (Builtin.max_ x0 x1 x2):=by
 unfold Builtin.max_;split
 .first|exact bG|exact cZ
 refine DU (fun _ _=>K.c) _ _
instance (x0 x1 x2):K P (Builtin.max_ x0 x1 x2):=⟨sX x0 x1 x2⟩
theorem sW(x0 x1 x2):Calm P Any (Builtin.min_ x0 x1 x2):=by
 unfold Builtin.min_;split
 .first|exact bG|exact cZ
 refine DU (fun _ _=>K.c) _ _
instance (x0 x1 x2):K P (Builtin.min_ x0 x1 x2):=⟨sW x0 x1 x2⟩
theorem uG(x0 x1 x2):Calm P Any (Builtin.unsafeAdd_ x0 x1 x2):=by
 unfold Builtin.unsafeAdd_;obtain⟨l⟩:=x2;rcases l with _|⟨a,_|⟨b,_|⟨c,_|⟨d,l⟩⟩⟩⟩
 all_goals (try dsimp only)
 all_goals (try (cases a<;>try dsimp only))
 all_goals (try (rename_i r;cases r<;>try dsimp only))
 all_goals (try exact bG)
 all_goals (try exact K.c)
 all_goals exact bM
instance (x0 x1 x2):K P (Builtin.unsafeAdd_ x0 x1 x2):=⟨uG x0 x1 x2⟩
theorem lL(x0 x1 x2):Calm P Any (Builtin.ssaWrapNilChk_ x0 x1 x2):=by
 unfold Builtin.ssaWrapNilChk_;obtain⟨l⟩:=x2;rcases l with _|⟨a,_|⟨b,_|⟨c,_|⟨d,l⟩⟩⟩⟩
 .exact bG
 .exact bG
 .exact bG
 .cases b<;>try exact bG
  cases c<;>try exact bG
  cases a<;>try exact bG
  rename_i s1 s2 r;cases r with
  |some r=>exact cZ
  |none=>
   dsimp only;refine aQ mA fun _=>?_
   have key:∀(o:Option aV),Calm P Any (match o with
     |some pt=>do
      let .pointer t <-jr pt|stuck "ssa:wrapnilchk: pointer type expected"
      let .named name _:=(<-lG t).desc|stuck "ssa:wrapnilchk: defined type expected"
      let some m:=String.fromUTF8? s2|stuck "ssa:wrapnilchk: the method's name is not UTF-8"
      let base:=(name.splitOn "[").headD ""
      let targs:=if base==name then "" else "[...]"
      match ((base.splitOn "/").getLastD "").splitOn "." with
      |[_,typ]=>
       eO (.plain ("value method "++toString base++toString targs++ "."++toString m++ " called using nil *"++toString typ++toString targs++ " pointer"))
      |_=>rY (.noEntry "builtin/ssaWrapNilChk.dot in the package path")
     |_=>stuck "ssa:wrapnilchk: no argument types" : iZ ai):=by
    intro o;cases o with
    |none=>exact bG
    |some pt=>
     refine aQ (K.c) fun u=>?_;cases u<;>try exact bG
     refine aQ (K.c) fun u=>?_;generalize u.desc=d;cases d<;>try exact bG
     dsimp only;generalize String.fromUTF8? s2=o2;cases o2<;>try exact bG
     dsimp only
     generalize String.splitOn _ "." = sp;split
     .exact K.c
     exact eb
   split
   .exact aQ (K.c) fun _=>key _
   exact key _
 exact bG
instance (x0 x1 x2):K P (Builtin.ssaWrapNilChk_ x0 x1 x2):=⟨lL x0 x1 x2⟩
theorem uD(t x):Calm P Any (Instr.range t x):=by
 unfold Instr.range;refine aQ (K.c) fun _=>?_
 repeat' (first|exact cZ|exact bG|exact eb|exact(Gw rfl)|exact(mr ‹_›)|(with_reducible apply nI;exact rfl)|(with_reducible refine rF ?_ (fun o ho=>by cases o<;>first|rfl|(revert ho;simp[gg];done)))|(refine kI (fun _ _=>?_) ?_)|(refine fg (R:=fun o=>gg o=true) ?_ (fun _ _=>?_))|(refine aQ ?_ (fun _=>?_))|split|dsimp only)
instance (t x):K P (Instr.range t x):=⟨uD t x⟩
instance (a b c d):K P (Instr.typeAssert a b c d):=⟨by unfold Instr.typeAssert;exact bM⟩
theorem vY(x0 x1 x2 x3):Calm P Any (Instr.typeAssert x0 x1 x2 x3):=K.c
instance (a b c):K P (movedNumber a b c):=⟨by unfold movedNumber;exact bM⟩
instance (a b c):K P (movedPointer a b c):=⟨by unfold movedPointer;exact bM⟩
instance (a b c d e i):K P (eqGuard a b c d e i):=⟨by unfold eqGuard;exact bM⟩
theorem La(x0 x1 x2 x3 x4 x5):Calm P Any (eqGuard x0 x1 x2 x3 x4 x5):=K.c
theorem GF(x0 x1 x2 x3):Calm P Any (binOp x0 x1 x2 x3):=by
 unfold binOp
 all_goals exact bM
instance (x0 x1 x2 x3):K P (binOp x0 x1 x2 x3):=⟨GF x0 x1 x2 x3⟩
theorem Bb(x0 x1 x2):Calm P Any (convert x0 x1 x2):=by
 unfold convert
 all_goals exact bM
instance (x0 x1 x2):K P (convert x0 x1 x2):=⟨Bb x0 x1 x2⟩
end
section
variable{P:aK}
theorem Xh{β:Type}{Q:β->Prop}{c:Prop}[Decidable c]{s t:iZ β}(hs:Calm P Q s)(ht:Calm P Q t):Calm P Q (if c then s else t):=by
 split
 .exact hs
 exact ht
theorem NZ:Lu .env:=fun os=>⟨.strings os.env,rfl,sN⟩
theorem Ik:Calm P Any Instr.panicnil:=by
 unfold Instr.panicnil;refine aQ (?_:Calm P Any (sys .env)) fun r=>?_
 .exact⟨NZ,fun _=>trivial⟩
 split
 .exact aQ jK fun _=>cZ
 exact bG
theorem uF(x):Calm P Any (Instr.panic x):=by
 unfold Instr.panic;split
 .exact kZ
 .refine aQ Ik fun n=>?_;split
  .exact kZ
  exact iU _
 exact bG
theorem Cq(zeros:Bool)(x0:Array aV)(x:ai)(elem:aV)(size qi E_ n:Nat)(base:Option dc)(s:ai)(appended:iZ (Array ai))(ha:Calm P Any appended) :
  Calm P Any (if qi+n<=E_ then do
    let new <-appended
    if let some a:=base then storeCells (a.add (qi*size)) new.toList
    pure (.slice base (qi+n) E_)
   else do
    if ((qi+n:Nat):Int)>IntKind.i64.max/\(zeros=true\/(<-lG elem).bytes=0) then eO (.error "growslice: len out of range")
    if Builtin.nextslicecap (qi+n) E_*(<-lG elem).bytes>2 ^ 48 then(if zeros=true then eO (.error "growslice: len out of range") else do
     if !(<-qL size qi n base x) then mark .noRoom
     rY (.resourceLimit "append: a slice or a string whose bytes no memory bears"))
    let nh <-Bp (.appendCap (qi+n) E_ elem)
    askRoom (nh*(<-lG elem).bytes)
    let old <-eU size qi s;let new <-appended;let rest:=f_ (<-jl elem).cells (nh-(qi+n))
    pure (.slice (some (<-newRow elem (old++new++rest))) (qi+n) nh:ai):iZ ai):=by
 repeat' (first
   |(with_reducible first|exact ha|exact cZ|exact eb|exact mA|exact n9|exact p_)
   |(with_reducible first|exact iU ..|exact jR ..|exact nZ ..|exact NT ..|exact vK ..|exact nL ..|exact wb ..)
   |(refine aQ ?_ (fun _=>?_))|split|dsimp only)
theorem xk(x0 x1 x2):Calm P Any (kO x0 x1 x2):=by
 unfold kO;split
 .rename_i alL s x _;refine aQ (ik ..) fun u=>?_;split
  .rename_i elem;split
   .rename_i base qi E_ _;refine aQ (NQ ..) fun size=>?_
    have key:∀(zeros:Bool) (n:Nat),Calm P Any (if qi+n<=E_ then do
      let new <-(if !zeros then eU size n x else if n*size=0 then pure #[] else do pure (f_ (<-jl elem).cells n):iZ (Array ai))
      if let some a:=base then storeCells (a.add (qi*size)) new.toList
      pure (.slice base (qi+n) E_)
     else do
      if ((qi+n:Nat):Int)>IntKind.i64.max/\(zeros=true\/(<-lG elem).bytes=0) then eO (.error "growslice: len out of range")
      if Builtin.nextslicecap (qi+n) E_*(<-lG elem).bytes>2 ^ 48 then(if zeros=true then eO (.error "growslice: len out of range") else do
       if !(<-qL size qi n base x) then mark .noRoom
       rY (.resourceLimit "append: a slice or a string whose bytes no memory bears"))
      let nh <-Bp (.appendCap (qi+n) E_ elem)
      askRoom (nh*(<-lG elem).bytes)
      let old <-eU size qi (.slice base qi E_);let new <-(if !zeros then eU size n x else if n*size=0 then pure #[] else do pure (f_ (<-jl elem).cells n):iZ (Array ai))
      let rest:=f_ (<-jl elem).cells (nh-(qi+n))
      pure (.slice (some (<-newRow elem (old++new++rest))) (qi+n) nh:ai):iZ ai):=by
     intro zeros n;refine Cq zeros x0 x elem size qi E_ n base _ _ ?_;split
     .exact nL ..
     split
     .exact cZ
     exact aQ (nZ ..) fun _=>cZ
    dsimp only
    repeat' (first
     |(with_reducible first|exact cZ|exact bG|exact mA|exact iU ..|exact ik ..|exact rN ..|exact jR ..|exact zE ..)
     |exact key _ _|(with_reducible refine Xh ?_ ?_)|(refine aQ ?_ (fun _=>?_))|split)
   exact bG
  exact bG
 exact bG
end
def fj:Next->Prop
 |.value _|.skip|.enter ..|.recover|.comm ..=>True
 |.round _ _ _ assign body=>eo assign=true/\eo body=true
 |.defer d|.spawn d=>qx d=true
 |_=>False
structure Xu(P:aK):Prop where
 body:∀(f:en) (fn:Func) (c:Code),P.funcs[f]?=some fn->fn.body=some c->eo c=true
 ext:∀(f:en) (fn:Func) (args:Array ai),P.funcs[f]?=some fn->fn.body=none->Calm P fj (fT f args)
 name:∀(f:en) (fn:Func),P.funcs[f]?=some fn->(fn.name == "runtime.NumGoroutine")=false
section
variable{P:aK}
theorem fM{α:Type}{Q:α->Prop}(e):Calm P Q (eO e:iZ α):=by
 unfold eO
 repeat' (first
   |(with_reducible first|exact kZ|exact jK|exact NW ..|exact NS ..)|(refine aQ ?_ (fun _=>?_))|split|dsimp only)
theorem Lc(b ats t cs args)(hb:BQ b=true):Calm P fj (builtin b ats t cs args):=by
 cases b<;>first|(exact absurd hb dN)|skip
 all_goals unfold builtin
 all_goals dsimp only
 all_goals first
  |exact aQ (xk ..) fun _=>trivial
  |exact aQ (Bg ..) fun _=>trivial
  |exact aQ (yg ..) fun _=>trivial
  |exact aQ (qy ..) fun _=>trivial
  |exact aQ (zF ..) fun _=>trivial
  |exact aQ (xj ..) fun _=>trivial
  |exact aQ (Bf ..) fun _=>trivial
  |exact aQ (sX ..) fun _=>trivial
  |exact aQ (sW ..) fun _=>trivial
  |exact aQ (uF ..) fun _=>trivial
  |trivial
theorem tH(T:Xu P)(f args):Calm P fj (fT f args):=by
 cases hf:P.funcs[f]? with
 |none=>
  unfold fT;refine fg (R:=fun p=>p=P) (show P=P from rfl) ?_;rintro p rfl;rw[hf];exact bG
 |some fn=>
  cases hb:fn.body with
  |none=>exact T.ext f fn args hf hb
  |some c=>
   unfold fT;refine fg (R:=fun p=>p=P) (show P=P from rfl) ?_;rintro p rfl;rw[hf];simp only[T.name f fn hf,hb,Option.isNone_some,bF,if_false];exact trivial
theorem rO(t x):Calm P Any (Place.get t x):=by
 cases x
 .exact cZ
 exact vn ..
theorem DT(l t x):Calm P Any (follow l t x):=by
 induction l generalizing t x with
 |nil=>exact cZ
 |cons s l ih=>
  unfold follow
  repeat' (first
   |(with_reducible first|exact cZ|exact bG|exact ik ..|exact nK ..|exact rO ..|exact Ej ..|exact Jv ..)|exact ih ..
   |(refine aQ ?_ (fun _=>?_))|split)
theorem vL(a b c d):Calm P Any (receiverAt a b c d):=by
 unfold receiverAt
 repeat' (first
   |(with_reducible first|exact cZ|exact bG|exact ik ..|exact nK ..|exact rO ..|exact vn ..|exact lL ..)
   |(refine aQ ?_ (fun _=>?_))|split)
theorem Cn(a b c d):Calm P Any (receiverVia a b c d):=by
 unfold receiverVia;refine aQ (DT ..) fun _=>?_;exact vL ..
theorem NU(n t v s):Calm P Any (method n t v s):=by
 induction n generalizing t v with
 |zero=>exact eb
 |succ n ih=>
  unfold method
  repeat' (first
   |(with_reducible first|exact cZ|exact bG|exact iU ..|exact jR ..|exact DT ..|exact rO ..|exact vL ..)|exact ih ..
   |(refine aQ ?_ (fun _=>?_))|split)
theorem Co(l t x):Calm P Any (followBlind l t x):=by
 induction l generalizing t x with
 |nil=>exact cZ
 |cons s l ih=>
  unfold followBlind
  repeat' (first
   |(with_reducible first|exact cZ|exact bG|exact ik ..|exact Jv ..)|exact ih ..
   |(refine aQ ?_ (fun _=>?_))|split)
theorem Il(n t v s):Calm P Any (nilAhead n t v s):=by
 induction n generalizing t v with
 |zero=>exact cZ
 |succ n ih=>
  unfold nilAhead
  repeat' (first
   |(with_reducible first|exact cZ|exact bG|exact jR ..|exact ik ..|exact Co ..)|exact ih ..
   |(refine aQ ?_ (fun _=>?_))|split)
theorem vM(T:Xu P)(r n args):Calm P fj (callMethod r n args):=by
 unfold callMethod;split
 .exact aQ jK fun _=>aQ (NU ..) fun _=>tH T ..
 .exact fM _
 exact bG
theorem mJ(l):Calm P (fun r=>za r=true) (Instr.getLoop l):=by
 unfold Instr.getLoop;refine kI (fun o ho=>?_) (nI rfl);split
 .exact ho
 exact bG
theorem Qe(l args):Calm P fj (Instr.yield l args):=by
 unfold Instr.yield;refine fg (mJ l) fun r hr=>?_
 have dp:eo r.assign=true/\eo r.body=true:=by
  simp only[za,aI] at hr;exact⟨hr.1.2,hr.2⟩
 split
 .exact aQ bG fun _=>dp
 exact dp
theorem sS(T:Xu P)(t args)(ht:Mt t=true):Calm P fj (invoke t args):=by
 unfold invoke;split
 .exact fM _
 .exact Lc _ _ _ _ _ ht
 .exact tH T ..
 .split
  .exact vM T ..
  exact bG
 .split
  .refine aQ (ik ..) fun _=>?_;exact vM T ..
  exact bG
 .split
  .refine aQ (Cn ..) fun _=>?_;exact tH T ..
  exact bG
 .exact Qe _ _
 .exact bG
 cases ht
theorem mI(U c t)(hc:Kh c=true):Calm P (fun d=>qx d=true) (resolve U c t):=by
 unfold resolve;unfold Kh at hc;split
 .rename_i b hb;rw[hb] at hc;exact hc
 .show qx _=true;rfl
 unfold Deferred.ofValue;split
 .show qx _=true;rfl
 .show qx _=true;rfl
 exact bG
theorem eF{s:iZ ai}(h:Calm P Any s):Calm P fj (do pure (.value (<-s))):=aQ h fun _=>trivial
theorem uB{s:iZ Unit}(h:Calm P Any s):Calm P fj (do s;pure .skip):=aQ h fun _=>trivial
theorem NV(T:Xu P)(U o)(ho:BP o=true):Calm P fj (execOp U o):=by
 unfold BP at ho;unfold execOp;cases hop:o.op with
 |nilCheck x=>
  dsimp only
  repeat' (first|(with_reducible first|exact fM _|exact jK|exact Il ..|exact eb)|exact Gw (show fj _ from trivial)|(refine aQ ?_ (fun _=>?_))|split)
 |call c=>
  rw[hop] at ho;exact fg (mI _ _ _ ho) fun d hd=>sS T _ _ hd
 |go c=>
  rw[hop] at ho;exact fg (mI _ _ _ ho) fun d hd=>hd
 |defer c=>
  rw[hop] at ho;exact fg (mI _ _ _ ho) fun d hd=>hd
 |recv ct ch ok=>
  dsimp only;refine aQ (ik ..) fun _=>?_;split
  .exact aQ (nZ ..) fun _=>trivial
  exact bG
 |select cs b=>
  dsimp only;exact aQ (qT (fun _=>aQ (nZ ..) fun _=>cZ) _) fun _=>trivial
 |pick c a b=>
  dsimp only;refine aQ (NY ..) fun _=>?_;exact trivial
 |binOp op t x y u=>exact eF (aQ (La ..) fun _=>GF ..)
 |alloc=>exact eF (CA ..)
 |box=>exact eF (GG ..)
 |build=>exact eF (Cz ..)
 |buildSlice=>exact eF (wa ..)
 |load=>exact eF (Be ..)
 |store=>exact uB (zw ..)
 |ready=>exact uB (Ct _)
 |waits=>exact eF (Cr _)
 |sliceToArrayPointer=>exact eF (zD ..)
 |makeInterface=>exact eF (tJ ..)
 |makeFunc=>exact eF (yb ..)
 |makeMap=>exact eF (zy ..)
 |makeChan=>exact eF (ye ..)
 |makeSlice=>exact eF (xi ..)
 |slice=>exact eF (zx ..)
 |fieldAddr=>exact eF (zB ..)
 |field=>exact eF (Cv ..)
 |indexAddr=>exact eF (zA ..)
 |index=>exact eF (Cu ..)
 |lookup=>exact eF (Bd ..)
 |mapUpdate=>exact uB (qa ..)
 |insert=>exact uB (qa ..)
 |mapEntry=>exact eF (ya ..)
 |entryStore=>exact uB (v_ ..)
 |range=>exact eF (uD ..)
 |next=>exact eF (Em ..)
 |entry=>exact eF (Cw ..)
 |typeAssert=>exact eF (vY ..)
 |extract=>exact eF (zC ..)
 |panic=>exact eF (uF ..)
 |unOp=>exact eF (Ip ..)
 |convert=>exact eF (Bb ..)
 |move|assign|send=>exact(show fj _ from trivial)
theorem GD(fn tmps params assign body around)(ha:eo assign=true)(hb:eo body=true):Calm P (fun r=>r.2.all qx=true) (Instr.enterLoop fn tmps params assign body around):=by
 unfold Instr.enterLoop
 extract_lets jp
 have hjp:∀x:Nat × List Deferred,x.2.all qx=true->Calm P (fun r=>r.2.all qx=true) (jp x):=by
  rintro⟨d,m⟩ hm;refine aQ (mr ?_) fun _=>hm;simp[gg,za,ha,hb]
 clear_value jp
 split
 .exact fg (mJ _) fun _ _=>hjp _ rfl
 exact aQ (mr rfl) fun _=>hjp _ rfl
theorem Ek(l):Calm P Any (Instr.beginRound l):=by
 unfold Instr.beginRound;refine fg (mJ l) fun r hr=>aQ (jk hr) fun _=>?_;split<;>first|exact cZ|exact iU _
theorem Io(l jump)(hj:jump.all eo=true):Calm P Any (Instr.endRound l jump):=by
 unfold Instr.endRound;refine fg (mJ l) fun r hr=>aQ (jk ?_) fun _=>cZ;simp only[za,aI] at hr;simp[gg,za,hj,hr.1.2,hr.2]
theorem Lb(l):Calm P (fun j:Option Code=>j.all eo=true) (Instr.endLoop l):=by
 unfold Instr.endLoop;refine fg (mJ l) fun r hr=>?_
 have hp:r.pending.all eo=true:=by
  simp only[za,aI] at hr;exact hr.1.1
 dsimp only;split
 .exact aQ (fM _) fun _=>aQ (jk hr) fun _=>hp
 exact aQ (jk hr) fun _=>hp
theorem Ba(l d)(hd:qx d=true):Calm P Any (Instr.deferInRound l d):=by
 unfold Instr.deferInRound;refine fg (mJ l) fun r hr=>kI (fun o ho=>?_) (nI rfl);split
 .refine jk ?_;simp only[gg,ej,hd,Bool.true_and];exact ho
 .exact rL
 exact bG
theorem A8(b):Calm P (fun ds:List Deferred=>ds.all qx=true) (Instr.takeDeferred b):=by
 unfold Instr.takeDeferred;refine kI (fun o ho=>?_) (nI rfl);split
 .exact aQ (jk rfl) fun _=>ho
 exact bG
theorem A_(fn tmps):Calm P Any (results fn tmps):=by
 unfold results;refine aQ (qT (fun r=>?_) _) fun _=>cZ;split
 .exact cZ
 exact aQ (nK ..) fun _=>vn ..
end
def dL(w:ak):Prop:=∀(b:Nat) (o:Obj),w.heap[b]?=some o->gg o=true\/o=.coro none
def CH(B:Nat)(e:gO):Prop:=
 (∃a,e.loc=.cell a/\a.block<B)\/(∃r,e.loc=.obj r/\r<B)\/e.loc=.output\/e.loc=.mark .noRoom\/∃f,e.loc=.mark (.extern f)
def CH.mono{B B':Nat}{e:gO}(h:CH B e)(hB:B<=B'):CH B' e:=by
 rcases h with⟨a,h1,h2⟩|⟨r,h1,h2⟩|h|h|h
 .exact .inl ⟨a,h1,oN⟩
 .exact .inr (.inl ⟨r,h1,oN⟩)
 .exact .inr (.inr (.inl h))
 .exact .inr (.inr (.inr (.inl h)))
 exact .inr (.inr (.inr (.inr h)))
def Ry{w:ak}{a:dc}{v:ai}(h:w.cell? a=some v):a.block<w.heap.size:=by
 unfold World.cell? at h;rcases CQ a.block w.heap.size with hl|hl
 .exact hl
 rw[fS hl] at h;cases h
def eY{w:ak}{r:Nat}{o:Obj}(h:w.heap[r]?=some o):r<w.heap.size:=(ag.1 h).1
def E8{p:aK}{w:ak}{at_:dc}{u:aV}{k:dc}{b:Bool}{x}(h:w.seen p at_ u k b=.ok x):at_.block<w.heap.size:=by
 unfold World.seen at h;rcases CQ at_.block w.heap.size with hl|hl
 .exact hl
 simp only[fS hl,Bind.bind,Except.bind,fo,Except.pure,throw,throwThe,MonadExceptOf.throw] at h
 repeat' (first|(split at h)|(cases h;done))
def Nw{p:aK}{w:ak}{a:dc}{b:Bool}{v:ai}{l:List dc}(h:w.farLoad p a b=.ok (v,l)):∀x∈l,x.block<w.heap.size:=by
 unfold World.farLoad at h;split at h
 .rename_i at_ u _;unfold World.viewLoad at h;generalize hs:w.seen p at_ u a b=s at h;cases s with
  |error e=>simp only[Bind.bind,Except.bind] at h;cases h
  |ok s=>
   have hb:=E8 hs;obtain⟨c,e,fz,first,like,cells⟩:=s;simp only[Bind.bind,Except.bind,fo,Except.pure] at h;generalize like.ofBytes _=o at h;cases o with
   |none=>cases h
   |some v'=>
    simp only at h;cases h;intro x hx;obtain⟨y,_,rfl⟩:=dW.1 hx;exact hb
 cases h
def KU{p:aK}{w w':ak}{a:dc}{v:ai}{b:Bool}{l:List dc}(h:w.farStore p a v b=.ok (w',l)) :
  (∀x∈l,x.block<w.heap.size)/\w'.heap.size=w.heap.size/\w'.tape=w.tape/\w'.drawn=w.drawn/\(dL w->dL w'):=by
 unfold World.farStore at h;split at h
 .rename_i at_ u _;unfold World.viewStore at h;generalize hs:w.seen p at_ u a b=s at h;cases s with
  |error e=>by_cases ht:tight p p.depth u<;>simp only[ht] at h<;>cases h
  |ok s=>
   have hb:=E8 hs;obtain⟨c,e,fz,first,like,cells⟩:=s
   by_cases ht:tight p p.depth u
   .simp only[ht,Bind.bind,Except.bind,fo,Except.pure] at h;simp only[Bool.not_true,bF,if_false] at h;cases hv:v.bytes? with
    |none=>rw[hv] at h;cases h
    |some bytes=>
     rw[hv] at h;simp only[] at h;split at h
     all_goals
      rename_i r hr;split at hr
      .cases hr<;>cases h
      generalize (List.foldlM _ c cells:Except String (Array ai))=r' at hr;cases r'<;>cases hr<;>cases h<;>refine⟨fun x hx=>?_,sN,rfl,rfl,fun hk b o ho=>?_⟩
      all_goals first
       |(obtain⟨y,_,rfl⟩:=dW.1 hx;exact hb)
       |(by_cases e1:at_.block=b
         .subst e1;simp only[bg hb,ia] at ho;subst ho;exact .inl rfl
         simp only[aB e1] at ho
         exact hk _ _ ho)
   simp only[ht] at h;cases h
 cases h
class vP where
 κ:Nat->Option Obj
structure jG[K:vP](lw w:ak):Prop where
 size:lw.heap.size=w.heap.size
 os:lw.os=w.os
 out:lw.output=w.output
 at_:∀b:Nat,lw.heap[b]?=w.heap[b]?\/(lw.heap[b]?=some (.coro none)/\∃o,w.heap[b]?=some o/\gg o=false)
 old:∀b x,K.κ b=some x->b<lw.heap.size
 kept:∀b x,K.κ b=some x->lw.heap[b]?=some (.coro none)->w.heap[b]?=some x
def kn{o:Obj}(h:gg o=false):(∀c t f,o≠.cells c t f)/\(∀c t,o≠.pending c t)/\(∀a t,o≠.view a t)/\o.isChan=false:=by
 cases o<;>simp_all [gg,Obj.isChan]
section
variable[vP]{lw w:ak}(V:jG lw w)
include V
theorem tW(I d):jG lw (dR w I d):=⟨V.size,V.os,V.out,V.at_,V.old,V.kept⟩
theorem xu(a:dc):w.cell? a=lw.cell? a:=by
 unfold World.cell?;rcases V.at_ a.block with h|⟨h1,o,h2,h3⟩
 .rw[h]
 have:=(kn h3).1;rw[h1,h2];cases o<;>simp_all
theorem Oy(r:Nat):w.shape? r=lw.shape? r:=by
 unfold World.shape?;rcases V.at_ r with h|⟨h1,o,h2,h3⟩
 .rw[h]
 have:=(kn h3).1;rw[h1,h2];cases o<;>simp_all
theorem wE(a:dc):w.frozen? a=lw.frozen? a:=by
 unfold World.frozen?;rcases V.at_ a.block with h|⟨h1,o,h2,h3⟩
 .rw[h]
 have:=(kn h3).1;rw[h1,h2];cases o<;>simp_all
theorem IU(p:aK)(x u k b):w.seen p x u k b=lw.seen p x u k b:=by
 unfold World.seen;rcases V.at_ x.block with h|⟨h1,o,h2,h3⟩
 .rw[h]
 have:=(kn h3).1;rw[h1,h2];cases o<;>first|rfl|(exact absurd rfl (this _ _ _))
theorem RV(p:aK)(a b):w.farLoad p a b=lw.farLoad p a b:=by
 unfold World.farLoad World.noCell World.viewLoad;simp only[IU V];rcases V.at_ a.block with h|⟨h1,o,h2,h3⟩
 .rw[h]
 obtain⟨h4,h5,h6,_⟩:=kn h3;rw[h1,h2];cases o<;>first|rfl|(exact absurd rfl (h5 _ _))|(exact absurd rfl (h6 _ _))
theorem Uw(o:Obj):jG { lw with heap:=lw.heap.push o } { w with heap:=w.heap.push o }:=by
 refine⟨by simp[V.size],V.os,V.out,fun b=>?_,fun b x h=>by have:=V.old b x h;simp;omega,fun b x h=>?_⟩
 .simp only[lS,V.size];split
  .exact .inl rfl
  exact V.at_ b
 have h1:=V.old b x h;have h2:=V.size;simp only[lS];rw[if_neg oN,if_neg oN];exact V.kept b x h
theorem zT(r:Nat)(o:Obj)(hk:gg o=true):jG { lw with heap:=lw.heap.setIfInBounds r o } { w with heap:=w.heap.setIfInBounds r o }:=by
 refine⟨by simp[V.size],V.os,V.out,fun b=>?_,fun b x h=>by simpa using V.old b x h,fun b x h=>?_⟩
 .by_cases e:r=b
  .subst e;left;simp only[bD,if_true,V.size]
  simp only[aB e];exact V.at_ b
 by_cases e:r=b
 .subst e;have h1:=V.old r x h;simp only[bD,if_true];rw[if_pos h1];intro h2;cases h2;cases hk
 simp only[aB e];exact V.kept b x h
theorem CZ(r:Nat)(f:Obj->Obj)(hf:∀o,(∀c t z,o≠.cells c t z)->f o=o)(hf2:∀o,f o=.coro none->o=.coro none):jG { lw with heap:=lw.heap.modify r f } { w with heap:=w.heap.modify r f }:=by
 refine⟨by simp[V.size],V.os,V.out,fun b=>?_,fun b x h=>by simpa using V.old b x h,fun b x h=>?_⟩
 .simp only[qs];split
  .rename_i e;subst e;rcases V.at_ r with h|⟨h1,o,h2,h3⟩
   .rw[h];exact .inl rfl
   right;refine⟨by rw[h1];simp only[dK];rw[hf];intro c t z;exact nofun,o,by rw[h2];simp only[dK];rw[hf _ (kn h3).1],h3⟩
  exact V.at_ b
 simp only[qs];split
 .rename_i e;subst e;intro h1;obtain⟨o,h2,h3⟩:=eW.1 h1;obtain rfl:=hf2 o h3;have h4:=V.kept r x h h2;rcases V.at_ r with h5|⟨_,o,h5,h6⟩
  .rw[h2,h4] at h5;cases h5;rw[h4];simp only[dK];rw[h3]
  rw[h4] at h5;cases h5;rw[h4];simp only[dK];rw[hf _ (kn h6).1]
 exact V.kept b x h
theorem LP(a:dc)(n:Nat):jG (lw.freeze a n) (w.freeze a n):=by
 unfold World.freeze;split
 .exact V
 exact CZ V _ _ (fun o h=>by cases o<;>first|rfl|exact absurd rfl (h _ _ _)) fun o h=>by cases o<;>first|exact h|cases h
theorem JO(a:dc)(v:ai):jG (lw.setCell a v) (w.setCell a v):=by
 unfold kJ;exact CZ V _ _ (fun o h=>by cases o<;>first|rfl|exact absurd rfl (h _ _ _)) fun o h=>by cases o<;>first|exact h|cases h
end
def PJ{w:ak}(h:dL w){o:Obj}(ho:gg o=true):dL { w with heap:=w.heap.push o }:=fun b x hx=>by
 simp only[lS] at hx;split at hx
 .cases hx;exact .inl ho
 exact h b x hx
def zk{w:ak}(h:dL w){r:Nat}{o:Obj}(ho:gg o=true):dL { w with heap:=w.heap.setIfInBounds r o }:=fun b x hx=>by
 by_cases e:r=b
 .subst e;simp only[bD,if_true] at hx;split at hx
  .cases hx;exact .inl ho
  cases hx
 simp only[aB e] at hx;exact h b x hx
def yD{w:ak}(h:dL w){r:Nat}{f:Obj->Obj}(hf:∀o,gg o=true->gg (f o)=true)(hk:f (.coro none)=.coro none):dL { w with heap:=w.heap.modify r f }:=fun b x hx=>by
 simp only[qs] at hx;split at hx
 .rename_i e;subst e;obtain⟨y,hy,rfl⟩:=eW.1 hx;rcases h _ _ hy with h'|rfl
  .exact .inl (hf _ h')
  exact .inr hk
 exact h b x hx
def H7{w:ak}(h:dL w)(a:dc)(n:Nat):dL (w.freeze a n):=by
 unfold World.freeze;split
 .exact h
 exact yD h (fun o ho=>by cases o<;>first|exact ho|rfl) rfl
def F0{w:ak}(h:dL w)(a:dc)(v:ai):dL (w.setCell a v):=by
 unfold kJ;exact yD h (fun o ho=>by cases o<;>first|exact ho|rfl) rfl
def BR{α:Type}:Except Halt α->ak->Result α
 |.ok a,w=>.ok a w
 |.error h,w=>.halt h w
def OkR{α:Type}(Q:α->Prop):Except Halt α->Prop
 |.ok a=>Q a
 |.error h=>h≠.blocked/\h≠.waiting
structure RH[vP](P:aK){α:Type}(Q:α->Prop)(s:iZ α)(lw w eP w':ak)(k:Nat)(r:Except Halt α)(new:Array gO):Prop where
 tape:eP.tape=lw.tape
 drawn:eP.drawn=lw.drawn+k
 grows:lw.heap.size<=eP.heap.size
 ok:dL eP
 evs:∀e∈new,CH eP.heap.size e
 uN:jG eP w'
 res:OkR Q r
 lone:∀es,s.runT P lw es=(BR r eP,es++new)
 many:∀I d,Agree k lw.tape lw.drawn I d->∀es,s.runT P (dR w I d) es=(BR r (dR w' I (d+k)),es++new)
def ZU(P:aK){α:Type}(s:iZ α)(lw:ak):Prop:=∃why eP,∀es,∃es',s.runT P lw es=(.halt (.stuck why) eP,es')
def LR{c:Sys}(h:Lu c)(w:ak):∃r,(Kernel.perform c w.os=.done (r,w.os))/\w.sys c=(r,w):=by
 obtain⟨r,h1,h2⟩:=h w.os;refine⟨r,h1,?_⟩;unfold World.sys;rw[h1];cases r<;>first|rfl|exact absurd rfl h2
section
variable{P:aK}{α:Type}{Q:α->Prop}
theorem Qm{k:Nat}{I I':Nat->dV->Nat}{d d':Nat}(h:Agree (k+1) I d I' d'):Agree k I (d+1) I' (d'+1):=fun i hi=>by
 have:=h (i+1) oN;rwa [show d+(i+1)=d+1+i by omega,show d'+(i+1)=d'+1+i by omega] at this
theorem RH.cons[vP]{s t:iZ α}{lw w nU w₁ eP w':ak}{k:Nat}{r:Except Halt α}{new:Array gO}(pre:Array gO)
  (h:RH P Q t nU w₁ eP w' k r new) (ht:nU.tape=lw.tape) (hd:nU.drawn=lw.drawn) (hs:lw.heap.size<=nU.heap.size) (he:∀e∈pre,CH nU.heap.size e)
  (hl:∀es,s.runT P lw es=t.runT P nU (es++pre)) (hm:∀I d es,s.runT P (dR w I d) es=t.runT P (dR w₁ I d) (es++pre)) :
  RH P Q s lw w eP w' k r (pre++new) where
 tape:=h.tape.trans ht
 drawn:=by rw[h.drawn,hd]
 grows:=aG hs h.grows
 ok:=h.ok
 evs e hx:=by
  rcases IJ.1 hx with hx|hx
  .exact(he e hx).mono h.grows
  exact h.evs e hx
 uN:=h.uN
 res:=h.res
 lone es:=by rw[hl,h.lone,Array.append_assoc]
 many I d ha es:=by rw[hm,h.many I d (by rwa [ht,hd]),Array.append_assoc]
theorem ZU.cons{s t:iZ α}{lw nU:ak}(pre:Array gO)(h:ZU P t nU)(hl:∀es,s.runT P lw es=t.runT P nU (es++pre)):ZU P s lw:=by
 obtain⟨why,eP,h⟩:=h;exact⟨why,eP,fun es=>by rw[hl];exact h _⟩
theorem RH.halted[vP]{lw w:ak}{h:Halt}{s:iZ α}(dp:dL lw)(V:jG lw w)(hh:h≠.blocked/\h≠.waiting)
  (hl:∀es,s.runT P lw es=(.halt h lw,es)) (hm:∀I d es,s.runT P (dR w I d) es=(.halt h (dR w I d),es)):RH P Q s lw w lw w 0 (.error h) #[] where
 tape:=rfl
 drawn:=rfl
 grows:=aJ _
 ok:=dp
 evs:=by simp
 uN:=V
 res:=hh
 lone es:=by rw[hl];simp only[eA];rfl
 many I d _ es:=by rw[hm];simp only[eA];rfl
end
section
variable{P:aK}{α:Type}{Q:α->Prop}
theorem u_{B:Nat}{e:gO}(h:CH B e):∀x∈#[e],CH B x:=fun x hx=>by
 have:x=e:=by simpa using hx
 rw[this];exact h
theorem Jr{B:Nat}{l:List dc}{wr s:Bool}(h:∀x∈l,x.block<B):∀e∈(l.toArray.map (fun a=>(⟨.cell a,wr,s⟩:gO))),CH B e:=fun e he=>by
 obtain⟨a,ha,rfl⟩:=Array.mem_map.1 he;exact .inl ⟨a,rfl,h a (by simpa using ha)⟩
theorem lX(m:Mode)(a:dc)(v:ai)(k:iZ α)(h1:∀x,v≠.agg x)(h2:∀x,v≠.tuple x)(w:ak)(es:Array gO):(Sem.store m a v k).runT P w es =
  match w.cell? a with
  |some _=>
   if w.frozen? a then(.halt (.unsupported (.unsafePointer "a write to bytes that a string shares")) w,es)
   else k.runT P (w.setCell a v) (es.push ⟨.cell a,true,m == .atomic⟩)
  |none=>match w.farStore P a v (m == .atomic) with
   |.ok (w,uP)=>k.runT P w (es++uP.toArray.map (⟨.cell ·,true,m == .atomic⟩))
   |.error h=>(.halt h w,es):=by
 cases v<;>first|rfl|exact absurd rfl (h1 _)|exact absurd rfl (h2 _)
theorem FK{s:String}:Halt.stuck s≠.blocked/\Halt.stuck s≠.waiting:=by constructor<;>simp
theorem Kk{u:Unsupported}:Halt.unsupported u≠.blocked/\Halt.unsupported u≠.waiting:=by constructor<;>simp
def Twin(x:Nat)(W W':ak)(r r':Except String (ak × List dc)):Prop:=
 ∃r0:Except String (Obj × List dc),r=(r0.map fun y=>({ W with heap:=W.heap.setIfInBounds x y.1 },y.2))/\r'=(r0.map fun y=>({ W' with heap:=W'.heap.setIfInBounds x y.1 },y.2))/\∀y,r0=.ok y->gg y.1=true
theorem EU(p:aK)(x:dc)(u:aV)(k:dc)(v:ai)(b:Bool)(W W':ak)(h:W'.seen p x u k b=W.seen p x u k b) :
  Twin x.block W W' (W.viewStore p x u k v b) (W'.viewStore p x u k v b):=by
 unfold World.viewStore;rw[h];generalize W.seen p x u k b=s
 by_cases ht:tight p p.depth u=true
 .simp only[ht,Bool.not_true,bF,if_false];cases s with
  |error e=>exact⟨.error e,rfl,rfl,fun _ h=>by cases h⟩
  |ok s=>
   obtain⟨c,e,fz,first,like,cells⟩:=s;cases hv:v.bytes? with
   |none=>exact⟨.error _,rfl,rfl,fun _ h=>by cases h⟩
   |some bytes=>
    by_cases hl:some bytes.length≠like.bytes?.map (·.length)
    .simp only[Bind.bind,Except.bind,fo,Except.pure];rw[if_pos hl,if_pos hl];exact⟨.error _,rfl,rfl,fun _ h=>by cases h⟩
    .simp only[Bind.bind,Except.bind,fo,Except.pure];rw[if_neg hl,if_neg hl];generalize (List.foldlM _ c cells:Except String (Array ai))=r;cases r with
     |error e=>exact⟨.error e,rfl,rfl,fun _ h=>by cases h⟩
     |ok c'=>exact⟨.ok (.cells c' e fz,_),rfl,rfl,fun _ h=>by cases h;rfl⟩
 simp only[ht];exact⟨.error _,rfl,rfl,fun _ h=>by cases h⟩
theorem Ic[vP]{lw w:ak}(V:jG lw w)(p:aK)(a:dc)(v:ai)(b:Bool) :
  (∀e,lw.farStore p a v b=.error e->w.farStore p a v b=.error e)/\(∀eP l,lw.farStore p a v b=.ok (eP,l)->∃w',w.farStore p a v b=.ok (w',l)/\jG eP w'):=by
 unfold World.farStore World.noCell;rcases V.at_ a.block with h|⟨h1,o,h2,h3⟩
 .rw[h];split
  .rename_i at_ u _;obtain⟨r,hr1,hr2,hr3⟩:=EU p at_ u a v b lw w (IU V ..);rw[hr1,hr2];cases r with
   |error e=>exact⟨fun _ h=>h,fun _ _ h=>by cases h⟩
   |ok y=>exact⟨fun _ h=>by(cases h),fun eP l hl=>by cases hl;exact⟨_,rfl,zT V _ _ (hr3 _ rfl)⟩⟩
  exact⟨fun e he=>he,fun eP l hl=>by cases hl⟩
 obtain⟨h4,h5,h6,_⟩:=kn h3;rw[h1,h2];refine⟨fun e he=>?_,fun eP l hl=>by cases hl⟩;simp only at he;cases o<;>first|exact he|(exact absurd rfl (h5 _ _))|(exact absurd rfl (h6 _ _))
theorem Nv{w:ak}{p:aK}{a:dc}{what:String}:w.noCell a what≠.blocked/\w.noCell a what≠.waiting:=by
 unfold World.noCell;split<;>first|exact FK|exact Kk
theorem Nx{w:ak}{p:aK}{a:dc}{b:Bool}{e:Halt}(h:w.farLoad p a b=.error e):e≠.blocked/\e≠.waiting:=by
 unfold World.farLoad at h;split at h
 .split at h
  .cases h
  cases h;exact Kk
 cases h;exact Nv (p:=p)
theorem KW{w:ak}{p:aK}{a:dc}{v:ai}{b:Bool}{e:Halt}(h:w.farStore p a v b=.error e):e≠.blocked/\e≠.waiting:=by
 unfold World.farStore at h;split at h
 .split at h
  .cases h
  cases h;exact Kk
 cases h;exact Nv (p:=p)
theorem xP[vP]{s:iZ α}(hs:Calm P Q s){lw w:ak}(dp:dL lw)(V:jG lw w):ZU P s lw\/∃eP w' k r new,RH P Q s lw w eP w' k r new:=by
 induction s generalizing lw w with
 |pure a=>exact .inr ⟨lw,w,0,.ok a,#[],rfl,rfl,aJ _,dp,sN,V,hs,fun es=>by simp only[eA];rfl,fun I d _ es=>by simp only[eA];rfl⟩
 |load m a k ih=>
  cases hc:lw.cell? a with
  |some v=>
   have hw:w.cell? a=some v:=(xu V a).trans hc;have hl:∀es,(Sem.load m a k).runT P lw es=(k v).runT P lw (es++#[⟨.cell a,false,m == .atomic⟩]):=fun es=>by rw[dO,hc];simp
   rcases ih v (hs v) dp V with h|⟨eP,w',n,r,new,h⟩
   .exact .inl (h.cons _ hl)
   exact .inr ⟨_,_,_,_,_,h.cons _ rfl rfl (aJ _) (u_ (.inl ⟨a,rfl,Ry hc⟩)) hl fun I d es=>by rw[dO,rK,hw];simp⟩
  |none=>
   have hw:w.cell? a=none:=(xu V a).trans hc;have hf:=RV V P a (m == .atomic);cases hx:lw.farLoad P a (m == .atomic) with
   |ok x=>
    obtain⟨v,l⟩:=x;rw[hx] at hf;have hl:∀es,(Sem.load m a k).runT P lw es=(k v).runT P lw (es++l.toArray.map (⟨.cell ·,false,m == .atomic⟩)):=fun es=>by rw[dO,hc];simp only[hx]
    rcases ih v (hs v) dp V with h|⟨eP,w',n,r,new,h⟩
    .exact .inl (h.cons _ hl)
    exact .inr ⟨_,_,_,_,_,h.cons _ rfl rfl (aJ _) (Jr (Nw hx)) hl fun I d es=>by rw[dO,rK,hw];simp only[DG,hf]⟩
   |error e=>
    rw[hx] at hf;exact .inr ⟨_,_,_,_,_,RH.halted dp V (Nx hx) (fun es=>by rw[dO,hc];simp only[hx]) fun I d es=>by rw[dO,rK,hw];simp only[DG,hf]⟩
 |store m a v k ih=>
  by_cases h1:∃x,v=.agg x
  .obtain⟨x,rfl⟩:=h1;exact .inr ⟨_,_,_,_,_,RH.halted dp V FK (fun es=>by rw[dO]) fun I d es=>by rw[dO]⟩
  by_cases h2:∃x,v=.tuple x
  .obtain⟨x,rfl⟩:=h2;exact .inr ⟨_,_,_,_,_,RH.halted dp V FK (fun es=>by rw[dO]) fun I d es=>by rw[dO]⟩
  have h1':∀x,v≠.agg x:=fun x e=>h1 ⟨x,e⟩;have h2':∀x,v≠.tuple x:=fun x e=>h2 ⟨x,e⟩;cases hc:lw.cell? a with
  |some v0=>
   have hw:w.cell? a=some v0:=(xu V a).trans hc
   by_cases hz:lw.frozen? a=true
   .have hz':w.frozen? a=true:=(wE V a).trans hz
    exact .inr ⟨_,_,_,_,_,RH.halted (h:=.unsupported (.unsafePointer "a write to bytes that a string shares")) dp V Kk (fun es=>by rw[lX _ _ _ _ h1' h2',hc];simp only[hz,if_true]) fun I d es=>by
     rw[lX _ _ _ _ h1' h2',rK,hw];simp only[zn,hz',if_true]⟩
   have hz1:lw.frozen? a=false:=by simpa using hz
   have hz':w.frozen? a=false:=(wE V a).trans hz1
   have hl:∀es,(Sem.store m a v k).runT P lw es=k.runT P (lw.setCell a v) (es++#[⟨.cell a,true,m == .atomic⟩]):=fun es=>by
    rw[lX _ _ _ _ h1' h2',hc];simp[hz1]
   have hsz:(lw.setCell a v).heap.size=lw.heap.size:=by unfold kJ;simp
   rcases ih hs (F0 dp a v) (JO V a v) with h|⟨eP,w',n,r,new,h⟩
   .exact .inl (h.cons _ hl)
   refine .inr ⟨_,_,_,_,_,h.cons _ rfl rfl oN (u_ (.inl ⟨a,rfl,by rw[hsz];exact Ry hc⟩)) hl fun I d es=>?_⟩;rw[lX _ _ _ _ h1' h2',rK,hw];simp only[zn,hz',bF,if_false,<-Array.push_eq_append];rfl
  |none=>
   have hw:w.cell? a=none:=(xu V a).trans hc;obtain⟨hf1,hf2⟩:=Ic V P a v (m == .atomic);cases hx:lw.farStore P a v (m == .atomic) with
   |ok x=>
    obtain⟨nU,l⟩:=x;obtain⟨w₁,VE,V₁⟩:=hf2 _ _ hx;obtain⟨g1,g2,g3,g4,g5⟩:=KU hx
    have hl:∀es,(Sem.store m a v k).runT P lw es=k.runT P nU (es++l.toArray.map (⟨.cell ·,true,m == .atomic⟩)):=fun es=>by
     rw[lX _ _ _ _ h1' h2',hc];simp only[hx]
    rcases ih hs (g5 dp) V₁ with h|⟨eP,w',n,r,new,h⟩
    .exact .inl (h.cons _ hl)
    exact .inr ⟨_,_,_,_,_,h.cons _ g3 g4 oN (Jr (fun x hx=>by rw[g2];exact g1 x hx)) hl fun I d es=>by
     rw[lX _ _ _ _ h1' h2',rK,hw];simp only[AU,VE]
     rfl⟩
   |error e=>
    have VE:=hf1 _ hx
    exact .inr ⟨_,_,_,_,_,RH.halted dp V (KW hx) (fun es=>by rw[lX _ _ _ _ h1' h2',hc];simp only[hx]) fun I d es=>by
     rw[lX _ _ _ _ h1' h2',rK,hw];simp only[AU,VE]
     rfl⟩
 |new o k ih=>
  have hl:∀es,(Sem.new o k).runT P lw es=(k lw.heap.size).runT P { lw with heap:=lw.heap.push o } (es++#[]):=fun es=>by rw[dO];simp
  rcases ih lw.heap.size (hs.2 _) (PJ dp hs.1) (Uw V o) with h|⟨eP,w',n,r,new,h⟩
  .exact .inl (h.cons _ hl)
  exact .inr ⟨_,_,_,_,_,h.cons _ rfl rfl sN sN hl fun I d es=>by rw[dO];simp only[pw,<-V.size,eA];rfl⟩
 |shape r k ih=>
  have hl:∀es,(Sem.shape r k).runT P lw es=(k (lw.shape? r)).runT P lw (es++#[]):=fun es=>by rw[dO];simp
  rcases ih (lw.shape? r) (hs _) dp V with h|⟨eP,w',n,r',new,h⟩
  .exact .inl (h.cons _ hl)
  exact .inr ⟨_,_,_,_,_,h.cons _ rfl rfl (aJ _) sN hl fun I d es=>by rw[dO];simp only[Sc,Oy V,eA]⟩
 |freeze a n k ih=>
  have hl:∀es,(Sem.freeze a n k).runT P lw es=k.runT P (lw.freeze a n) (es++#[]):=fun es=>by rw[dO];simp
  have hz:(lw.freeze a n).heap.size=lw.heap.size/\(lw.freeze a n).tape=lw.tape/\(lw.freeze a n).drawn=lw.drawn:=by unfold World.freeze;split<;>simp
  rcases ih hs (H7 dp a n) (LP V a n) with h|⟨eP,w',n',r',new,h⟩
  .exact .inl (h.cons _ hl)
  refine .inr ⟨_,_,_,_,_,h.cons _ hz.2.1 hz.2.2 oN sN hl fun I d es=>?_⟩;rw[dO];simp only[eA];unfold World.freeze;split<;>rfl
 |frozen a k ih=>
  have hl:∀es,(Sem.frozen a k).runT P lw es=(k (lw.frozen? a)).runT P lw (es++#[]):=fun es=>by rw[dO];simp
  rcases ih (lw.frozen? a) (hs _) dp V with h|⟨eP,w',n,r',new,h⟩
  .exact .inl (h.cons _ hl)
  exact .inr ⟨_,_,_,_,_,h.cons _ rfl rfl (aJ _) sN hl fun I d es=>by rw[dO];simp only[zn,wE V,eA]⟩
 |getObj r k ih=>
  cases hc:lw.heap[r]? with
  |none=>exact .inl ⟨_,lw,fun es=>⟨_,by rw[dO];simp only[hc];rfl⟩⟩
  |some o=>
   by_cases hcell:∃c t f,o=.cells c t f
   .obtain⟨c,t,f,rfl⟩:=hcell;exact .inl ⟨_,lw,fun es=>⟨_,by rw[dO];simp only[hc];rfl⟩⟩
   have wA:∀c t f,o≠.cells c t f:=fun c t f e=>hcell ⟨c,t,f,e⟩
   have hrun:∀(x:ak) (o':Obj),x.heap[r]?=some o'->(∀c t f,o'≠.cells c t f)->∀es,(Sem.getObj r k).runT P x es=(k o').runT P x (es++#[⟨.obj r,false,o'.isChan⟩]):=fun x o' hx hn es=>by
    rw[dO,hx];cases o'<;>first|exact absurd rfl (hn _ _ _)|(simp only[<-Array.push_eq_append])
   have hev:CH lw.heap.size (⟨.obj r,false,o.isChan⟩:gO):=.inr (.inl ⟨r,rfl,eY hc⟩);have hl:=hrun lw o hc wA;rcases V.at_ r with hv|⟨h1,o',h2,h3⟩
   .have hw:w.heap[r]?=some o:=hv.symm.trans hc
    have afN:Calm P Q (k o)\/He (k o):=by
     rcases dp r o hc with ho|rfl
     .exact .inl (hs.1 o ho)
     exact hs.2.symm.imp (·.1) id
    rcases afN with hk|⟨why,hk⟩
    .rcases ih o hk dp V with h|⟨eP,w',n,r',new,h⟩
     .exact .inl (h.cons _ hl)
     exact .inr ⟨_,_,_,_,_,h.cons _ rfl rfl (aJ _) (u_ hev) hl fun I d es=>hrun (dR w I d) o hw wA es⟩
    exact .inl ⟨why,lw,fun es=>⟨_,by rw[hl,hk];rfl⟩⟩
   obtain rfl:o=.coro none:=aT (hc.symm.trans h1);rcases hs.2 with⟨why,hk⟩|⟨hk,hk2⟩
   .exact .inl ⟨why,lw,fun es=>⟨_,by rw[hl,hk];rfl⟩⟩
   rcases ih (.coro none) hk dp V with h|⟨eP,w',n,r',new,h⟩
   .exact .inl (h.cons _ hl)
   refine .inr ⟨_,_,_,_,_,h.cons _ rfl rfl (aJ _) (u_ hev) hl fun I d es=>?_⟩;rw[hrun (dR w I d) o' h2 (kn h3).1 es,hk2 _ h3,(kn h3).2.2.2];rfl
 |setObj r o k ih=>
  cases hc:lw.heap[r]? with
  |none=>exact .inl ⟨_,lw,fun es=>⟨_,by rw[dO];simp only[hc];rfl⟩⟩
  |some o0=>
   by_cases hcell:∃c t f,o0=.cells c t f
   .obtain⟨c,t,f,rfl⟩:=hcell;exact .inl ⟨_,lw,fun es=>⟨_,by rw[dO];simp only[hc];rfl⟩⟩
   have wA:∀c t f,o0≠.cells c t f:=fun c t f e=>hcell ⟨c,t,f,e⟩
   have hrun:∀(x:ak) (o':Obj),x.heap[r]?=some o'->(∀c t f,o'≠.cells c t f)->∀es,(Sem.setObj r o k).runT P x es=k.runT P { x with heap:=x.heap.setIfInBounds r o } (es++#[⟨.obj r,true,o.isChan⟩]):=fun x o' hx hn es=>by
    rw[dO,hx];cases o'<;>first|exact absurd rfl (hn _ _ _)|(simp only[<-Array.push_eq_append])
   have hw:∃o',w.heap[r]?=some o'/\∀c t f,o'≠.cells c t f:=by
    rcases V.at_ r with hv|⟨h1,o',h2,h3⟩
    .exact⟨o0,hv.symm.trans hc,wA⟩
    exact⟨o',h2,(kn h3).1⟩
   obtain⟨o',hw,hn'⟩:=hw;have hl:=hrun lw o0 hc wA;rcases ih hs.2 (zk dp hs.1) (zT V r o hs.1) with h|⟨eP,w',n,r',new,h⟩
   .exact .inl (h.cons _ hl)
   exact .inr ⟨_,_,_,_,_,h.cons _ rfl rfl sN (u_ (.inr (.inl ⟨r,rfl,by simpa using eY hc⟩))) hl fun I d es=>hrun (dR w I d) o' hw hn' es⟩
 |choose q k ih=>
  by_cases hq:q.forced=true
  .have hl:∀es,(Sem.choose q k).runT P lw es=(k 0).runT P lw (es++#[]):=fun es=>by rw[dO];simp[hq]
   rcases ih 0 (hs 0) dp V with h|⟨eP,w',n,r,new,h⟩
   .exact .inl (h.cons _ hl)
   exact .inr ⟨_,_,_,_,_,h.cons _ rfl rfl (aJ _) sN hl fun I d es=>by rw[dO];simp[hq]⟩
  have hl:∀es,(Sem.choose q k).runT P lw es=(k (q.cut (lw.tape lw.drawn q))).runT P { lw with drawn:=lw.drawn+1 } es:=fun es=>by rw[dO];simp[hq]
  have V':jG { lw with drawn:=lw.drawn+1 } w:=⟨V.size,V.os,V.out,V.at_,V.old,V.kept⟩
  rcases ih (q.cut (lw.tape lw.drawn q)) (hs _) (lw:={ lw with drawn:=lw.drawn+1 }) dp V' with⟨why,eP,h⟩|⟨eP,w',n,r,new,h⟩
  .exact .inl ⟨why,eP,fun es=>by rw[hl];exact h es⟩
  refine .inr ⟨eP,w',n+1,r,new,h.tape,by rw[h.drawn];simp only[];omega,h.grows,h.ok,h.evs,h.uN,h.res,fun es=>by rw[hl,h.lone],fun I d ha es=>?_⟩;have h0:lw.tape lw.drawn=I d:=ha 0 oN;have:=h.many I (d+1) (Qm ha) es;rw[dO];simp only[hq,bF,if_false,Al,qP,<-h0];rw[show d+(n+1)=d+1+n by omega];exact this
 |sys c k ih=>
  obtain⟨x,hx1,hx2⟩:=LR hs.1 lw;have hl:∀es,(Sem.sys c k).runT P lw es=(k x).runT P lw (es++#[⟨.output,true,false⟩]):=fun es=>by rw[dO,hx2];simp
  have hm:∀I d es,(Sem.sys c k).runT P (dR w I d) es=(k x).runT P (dR w I d) (es++#[⟨.output,true,false⟩]):=fun I d es=>by
   obtain⟨y,hy1,hy2⟩:=LR hs.1 (dR w I d)
   have:y=x:=by
    simp only[abl,<-V.os] at hy1;rw[hx1] at hy1;cases hy1;rfl
   subst this;rw[dO,hy2];simp
  rcases ih x (hs.2 x) dp V with h|⟨eP,w',n,r,new,h⟩
  .exact .inl (h.cons _ hl)
  exact .inr ⟨_,_,_,_,_,h.cons _ rfl rfl (aJ _) (u_ (.inr (.inr (.inl rfl)))) hl hm⟩
 |program k ih=>
  have hl:∀es,(Sem.program k).runT P lw es=(k P).runT P lw (es++#[]):=fun es=>by rw[dO];simp
  rcases ih P hs dp V with h|⟨eP,w',n,r,new,h⟩
  .exact .inl (h.cons _ hl)
  exact .inr ⟨_,_,_,_,_,h.cons _ rfl rfl (aJ _) sN hl fun I d es=>by rw[dO];simp⟩
 |mark m k ih=>
  have hl:∀(x:ak) es,(Sem.mark m k).runT P x es=k.runT P x (es++#[⟨.mark m,false,true⟩]):=fun x es=>by rw[dO];simp
  rcases ih hs.2 dp V with h|⟨eP,w',n,r,new,h⟩
  .exact .inl (h.cons _ (hl lw))
  refine .inr ⟨_,_,_,_,_,h.cons _ rfl rfl (aJ _) (u_ ?_) (hl lw) fun I d es=>hl _ es⟩;rcases hs.1 with rfl|⟨f,rfl⟩
  .exact .inr (.inr (.inr (.inl rfl)))
  exact .inr (.inr (.inr (.inr ⟨f,rfl⟩)))
 |halt h=>exact .inr ⟨_,_,_,_,_,RH.halted dp V hs (fun es=>by rw[dO]) fun I d es=>by rw[dO]⟩
end
def je:Item->Bool
 |.code c=>eo c
 |.inLoop c|.inScope c=>eo c
 |.inRegion aM _=>aM.all BP
 |.inBlock _|.inRangeFunc _|.endRangeFunc _|.beginRound=>true
 |.call ..|.extern ..=>false
structure dM(fr:bY):Prop where
 todo:fr.todo.all je=true
 defers:fr.defers.all qx=true
structure Bz(g:aC):Prop where
 frame:dM g.frame
 callers:∀c∈g.callers,dM c
 status:g.status=.running\/g.status=.finished
structure Quiet(P:aK):Prop extends Xu P where
 ahead:P.follows .staticDataAhead=true
 steps:∀g,P.stepOf g=none
 enters:∀todo,NoEnter P todo
structure Base[vP](lw eP w':ak)(k:Nat)(es:Array gO):Prop where
 tape:eP.tape=lw.tape
 drawn:eP.drawn=lw.drawn+k
 grows:lw.heap.size<=eP.heap.size
 ok:dL eP
 evs:∀e∈es,CH eP.heap.size e
 uN:jG eP w'
def JI[vP](P:aK)(lw:ak)(s:GStep)(f:(Nat->dV->Nat)->Nat->GStep):Prop:=
 match s with
 |.ended ..=>True
 |.spawn ..=>True
 |.go g' eP es=>g'.dyingOn P\/(Bz g'/\g'.dying=none/\∃w' k,Base lw eP w' k es/\∀I d,Agree k lw.tape lw.drawn I d->f I d=.go g' (dR w' I (d+k)) es)
 |.comm g' cs b sh eP es=>Bz g'/\(g'.dying=none/\g'.status=.running)/\∃w' k,Base lw eP w' k es/\∀I d,Agree k lw.tape lw.drawn I d->f I d=.comm g' cs b sh (dR w' I (d+k)) es
 |_=>False
section frames
variable{fr:bY}
theorem dM.finish(h:dM fr)(v:ai):dM (fr.finish v):=by
 obtain⟨ht,hd⟩:=h;unfold Frame.finish;split
 .rename_i e;rw[e] at ht;simp only[ej,aI] at ht;refine⟨?_,hd⟩;simp only[ej,aI];exact ht
 .rename_i e;rw[e] at ht;simp only[ej,aI] at ht;refine⟨?_,hd⟩;simp only[ej,aI];exact ht
 .rename_i e;rw[e] at ht;simp only[ej,aI] at ht;exact⟨ht.2,hd⟩
 .rename_i e;rw[e] at ht;simp only[ej,aI] at ht;exact absurd ht.1 (by simp[je])
 .rename_i e;rw[e] at ht;simp only[ej,aI] at ht;exact absurd ht.1 (by simp[je])
 exact⟨ht,hd⟩
theorem dM.raise(h:dM fr)(c:List PanicEntry):dM (fr.raise c):=by
 unfold Frame.raise;split<;>exact⟨h.todo,h.defers⟩
theorem dM.mode(h:dM fr)(m:FrameMode):dM { fr with mode:=m }:=⟨h.todo,h.defers⟩
theorem oZ{P:aK}(T:Quiet P)(f:en)(args:Array ai)(kind:CallKind):dM (eL P f args kind):=by
 refine⟨?_,rfl⟩;unfold eL;simp only[ej,List.all_nil,Bool.and_true,je];cases hf:P.funcs[f]? with
 |none=>rfl
 |some fn=>
  cases hb:fn.body with
  |none=>simp[hb,eo]
  |some c=>simpa [hb] using T.body f fn c hf hb
theorem yF{l:Nat}{f:en}{tmps:Array ai}{a b:Code}(ha:eo a=true)(hb:eo b=true)(kind:CallKind):dM (Frame.round l f tmps a b kind):=by
 refine⟨?_,rfl⟩;simp[Frame.round,je,ha,hb]
theorem Cl{id:Nat}:∀ {k k':List Item},k.all je=true->exitTo id k=some k'->k'.all je=true
 |[],k',_,h=>by cases h
 |x::k,k',hk,h=>by
  simp only[ej,aI] at hk;unfold exitTo at h;split at h
  .rename_i e;cases e;split at h
   .cases h;exact hk.2
   exact Cl hk.2 h
  .rename_i e;cases e;exact Cl hk.2 h
  rename_i e;cases e
theorem uZ:∀ {c:Code} {l:Nat} {c':Code},eo c=true->BA c l=some c'->eo c'=true
 |.seq a b,l,c',hc,h=>by
  simp only[eo,aI] at hc;unfold BA at h;split at h
  .rename_i rest hr;cases h;simp only[eo,aI];exact⟨uZ hc.1 hr,hc.2⟩
  exact uZ hc.2 h
 |.label l',l,c',hc,h=>by
  unfold BA at h;split at h
  .cases h;rfl
  cases h
 |.region ..,l,c',hc,h=>by unfold BA at h;cases h
 |.cond ..,l,c',hc,h=>by unfold BA at h;cases h
 |.block ..,l,c',hc,h=>by unfold BA at h;cases h
 |.loop ..,l,c',hc,h=>by unfold BA at h;cases h
 |.rangeFunc ..,l,c',hc,h=>by unfold BA at h;cases h
 |.scope ..,l,c',hc,h=>by unfold BA at h;cases h
 |.exit ..,l,c',hc,h=>by unfold BA at h;cases h
 |.goto ..,l,c',hc,h=>by unfold BA at h;cases h
 |.ret,l,c',hc,h=>by unfold BA at h;cases h
 |.skip,l,c',hc,h=>by unfold BA at h;cases h
 |.refuse ..,l,c',hc,h=>by unfold BA at h;cases h
theorem Ch{l:Nat}:∀ {k k':List Item},k.all je=true->gotoIn l k=some k'->k'.all je=true
 |[],k',_,h=>by cases h
 |x::k,k',hk,h=>by
  have hk0:=hk;simp only[ej,aI] at hk;unfold gotoIn at h;split at h
  .rename_i body k0 e;cases e;split at h
   .rename_i rest hr;cases h;simp only[ej,aI];exact⟨uZ hk.1 hr,hk⟩
   exact Ch hk.2 h
  .rename_i e;cases e;exact Ch hk.2 h
  rename_i e;cases e
theorem mU:∀ {cs:List bY} {fr:bY} {v:ai} {cs':List bY},(∀c∈cs,dM c)->tryRecover fr cs=some (v,cs')->∀c∈cs',dM c
 |[],fr,v,cs',h,e=>by
  unfold tryRecover at e;split at e
  .rename_i h1;cases h1
  .rename_i h1;cases h1
  cases e
 |c0::rest,fr,v,cs',h,e=>by
  unfold tryRecover at e;split at e
  .rename_i h1;cases h1;split at e
   .cases e;intro c hc;rcases bQ.1 hc with rfl|hc
    .exact(h c0 (dJ ..)).mode _
    exact h c (bW _ hc)
   cases e
  .rename_i h1;cases h1;obtain⟨⟨v',r'⟩,hr,he⟩:=eW.1 e;cases he;intro c hc;rcases bQ.1 hc with rfl|hc
   .exact h c (dJ ..)
   exact mU (fun c hc=>h c (bW _ hc)) hr c hc
  cases e
theorem lJ:∀ {cs:List bY} {l:Nat} {v:ai} {cs':List bY},(∀c∈cs,dM c)->tryRecoverLoop l cs=some (v,cs')->∀c∈cs',dM c
 |[],l,v,cs',h,e=>by cases e
 |c0::rest,l,v,cs',h,e=>by
  unfold tryRecoverLoop at e;obtain⟨⟨v',r'⟩,hr,he⟩:=eW.1 e;cases he;have AA:∀c∈rest,dM c:=fun c hc=>h c (bW _ hc);intro c hc;rcases bQ.1 hc with rfl|hc
  .exact h c (dJ ..)
  split at hr
  .exact lJ AA hr c hc
  .split at hr
   .exact mU AA hr c hc
   exact lJ AA hr c hc
  exact lJ AA hr c hc
end frames
def mem_seen{p:aK}{fn:en}{es:Array gO}{e:gO}(h:e∈seen p fn es):e∈es:=by
 unfold seen at h;revert h
 have:∀(l:List gO) (acc:Bool × Array gO),e∈(l.foldl (fun(x:Bool × Array gO) (e:gO)=>(match x with
   |(q,kept)=>match e.loc with
    |.mark (.extern f)=>((p.funcs[f]?).any (·.norace),kept)
    |_=>(q,if q && !e.sync then kept else kept.push e):Bool × Array gO)) acc).2->e∈acc.2\/e∈l:=by
  intro l
  induction l with
  |nil=>intro acc h;exact .inl h
  |cons x l ih=>
   intro acc h;rw[List.foldl_cons] at h;rcases ih _ h with h|h
   .obtain⟨q,kept⟩:=acc;dsimp only at h;split at h
    .exact .inl h
    dsimp only at h;split at h
    .exact .inl h
    rcases Array.mem_push.1 h with h|rfl
    .exact .inl h
    exact .inr (dJ ..)
   exact .inr (bW _ h)
 intro h;dsimp only at h;rw[<-Array.foldl_toList] at h;rcases this _ _ h with h|h
 .simp at h
 simpa using h
section
variable{P:aK}{lw w:ak}
theorem JC[vP](dp:dL lw)(V:jG lw w):Base lw lw w 0 #[]:=⟨rfl,rfl,aJ _,dp,sN,V⟩
theorem UE[vP](dp:dL lw)(V:jG lw w){g:aC}(hg:Bz g)(hd:g.dying=none){f}(hf:∀I d,f I d=.go g (dR w I d) #[]):JI P lw (.go g lw #[]) f:=
 .inr ⟨hg,hd,w,0,JC dp V,fun I d _=>hf I d⟩
theorem RH.base[vP]{α:Type}{Q:α->Prop}{s:iZ α}{eP w':ak}{k:Nat}{r:Except Halt α}{new:Array gO}(h:RH P Q s lw w eP w' k r new){es:Array gO}(hes:∀e∈es,e∈new):Base lw eP w' k es:=
 ⟨h.tape,h.drawn,h.grows,h.ok,fun e he=>h.evs e (hes e he),h.uN⟩
def lR(P:aK){α:Type}(K:Result α × Array gO->GStep)(r:Except Halt α):Prop:=∀x new,(∃o y es',K (BR r x,new)=.ended o y es')\/(∃g y es',K (BR r x,new)=.go g y es'/\g.dyingOn P)\/(∃g c y es',K (BR r x,new)=.spawn g c y es')\/
   (∃g es',Bz g/\g.dying=none/\(∀e∈es',e∈new)/\∀y,K (BR r y,new)=.go g y es')\/
   (∃g cs b sh es',Bz g/\(g.dying=none/\g.status=.running)/\(∀e∈es',e∈new)/\∀y,K (BR r y,new)=.comm g cs b sh y es')
theorem lR.ended{α:Type}{K:Result α × Array gO->GStep}{r:Except Halt α}(h:∀x new,∃o y es',K (BR r x,new)=.ended o y es'):lR P K r:=fun x new=>.inl (h x new)
theorem lR.Gk{α:Type}{K:Result α × Array gO->GStep}{r:Except Halt α}(h:∀x new,∃g y es',K (BR r x,new)=.go g y es'/\g.dyingOn P):lR P K r:=fun x new=>.inr (.inl (h x new))
theorem lR.go{α:Type}{K:Result α × Array gO->GStep}{r:Except Halt α}{g:aC}(hg:Bz g)(hd:g.dying=none)(es':Array gO->Array gO)(hes:∀new e,e∈es' new->e∈new)(h:∀y new,K (BR r y,new)=.go g y (es' new)):lR P K r:=
 fun x new=>.inr (.inr (.inr (.inl ⟨g,es' new,hg,hd,hes new,fun y=>h y new⟩)))
theorem zX[vP]{α:Type}{Q:α->Prop}{s:iZ α}(hs:Calm P Q s)(dp:dL lw)(V:jG lw w)(F:ak->GStep)
  (h:∃K:Result α × Array gO->GStep,(∀y,F y=K (s.runT P y #[]))/\(∀why x es,∃o es',K (.halt (.stuck why) x,es)=.ended o x es')/\∀r,OkR Q r->lR P K r) :
  JI P lw (F lw) (fun I d=>F (dR w I d)):=by
 obtain⟨K,hrun,Rj,hK⟩:=h;simp only[hrun];rcases xP hs dp V with⟨why,eP,h⟩|⟨eP,w',k,r,new,h⟩
 .obtain⟨es,he⟩:=h #[];rw[he];obtain⟨o,es',h'⟩:=Rj why eP es;rw[h'];trivial
 have hl:=h.lone #[];rw[fD] at hl;rw[hl];have hm:∀I d,Agree k lw.tape lw.drawn I d->K (s.runT P (dR w I d) #[])=K (BR r (dR w' I (d+k)),new):=fun I d ha=>by rw[h.many I d ha #[],fD]
 rcases hK r h.res eP new with⟨o,y,es',e⟩|⟨g,y,es',e,hd⟩|⟨g,c,y,es',e⟩|⟨g,es',hg,hd,hes,e⟩|⟨g,cs,b,sh,es',hg,hd,hes,e⟩
 .rw[e];trivial
 .rw[e];exact .inl hd
 .rw[e];trivial
 .rw[e eP];exact .inr ⟨hg,hd,w',k,h.base hes,fun I d ha=>(hm I d ha).trans (e _)⟩
 rw[e eP];exact⟨hg,hd,w',k,h.base hes,fun I d ha=>(hm I d ha).trans (e _)⟩
theorem AX(fr:bY)(ahead:List ByteArray)(m:String)(whole:Bool)(w:ak):∃g y es',dieOf fr ahead m whole w=.go g y es'/\g.dyingOn P:=⟨_,_,_,rfl,.inl rfl,_,rfl,rfl,NoEnter.nil P⟩
theorem Eg(fr:bY)(m:String)(w:ak):∃g y es',endThrow fr m w=.go g y es'/\g.dyingOn P:=AX _ _ _ _ _
theorem vH(fr:bY)(cs:List bY)(d:Option Dying)(m:String)(w:ak) :
  (∃o y es',endFatal P fr cs d m w=.ended o y es')\/∃g y es',endFatal P fr cs d m w=.go g y es'/\g.dyingOn P:=by
 unfold endFatal
 extract_lets
 repeat' (first|(split)|exact .inl ⟨_,_,_,rfl⟩|exact .inr (AX _ _ _ _ _))
theorem NC(T:Quiet P)(fr:bY)(cs:List bY)(d:Option Dying)(g:Nat)(w:ak):∃o es',early P fr cs d g w=.ended o w es':=by
 unfold early;simp only[T.ahead,T.steps,Bool.not_true,bF,if_false];exact⟨_,_,rfl⟩
theorem fK{fr:bY}{cs:List bY}{d:Option Dying}{o}(h:dM fr)(hc:∀c∈cs,dM c):Bz { frame:=fr,callers:=cs,status:=.running,dying:=d,offers:=o }:=⟨h,hc,.inl rfl⟩
theorem EK{fr:bY}{cs:List bY}(h:dM fr)(hc:∀c∈cs,dM c):∀c∈fr::cs,dM c:=fun c hx=>by
 rcases bQ.1 hx with rfl|hx
 .exact h
 exact hc c hx
theorem Hy{c:Prop}[Decidable c]{es:Array gO}{e:gO}(h:e∈(if c then #[] else es)):e∈es:=by
 split at h
 .simp at h
 exact h
theorem ug{es:Array gO}{p:aK}{fn:en}{c:Prop}[Decidable c]{e:gO}(h:e∈seen p fn (if c then #[] else es)++#[]):e∈es:=by
 rw[eA] at h;exact Hy (mem_seen h)
theorem mem_row{es:Array gO}{p:aK}{fn:en}{c:Prop}[Decidable c]:∀e,e∈seen p fn (if c then #[] else es)++#[]->e∈es:=fun e=>ug
theorem xT[vP](T:Quiet P){fr:bY}{cs:List bY}(hfr:dM fr)(hcs:∀c∈cs,dM c){s:iZ Next}(hs:Calm P fj s)(dp:dL lw)(V:jG lw w) :
  JI P lw (eH P true fr cs none s lw) (fun I d=>eH P true fr cs none s (dR w I d)):=by
 refine zX hs dp V (fun y=>eH P true fr cs none s y) ⟨?K,fun y=>?_,?_,?_⟩
 rotate_left
 .unfold eH;simp only[if_true];generalize s.runT P y #[]=x;exact rfl
 .intro why x es;exact⟨_,_,rfl⟩
 .intro r hr;cases r with
  |ok n=>
   cases n with
   |value v=>exact lR.go (fK (hfr.finish v) hcs) rfl _ (fun _=>mem_row) fun y new=>rfl
   |skip=>exact lR.go (fK (hfr.finish undef) hcs) rfl _ (fun _=>mem_row) fun y new=>rfl
   |enter f args=>exact lR.go (fK (oZ T f args _) (EK hfr hcs)) rfl _ (fun _=>mem_row) fun y new=>rfl
   |round l f tmps a b=>exact lR.go (fK (yF hr.1 hr.2 _) (EK hfr hcs)) rfl _ (fun _=>mem_row) fun y new=>rfl
   |defer d=>exact lR.go (fK (dM.finish (fr:={ fr with defers:=d::fr.defers }) ⟨hfr.todo,by rw[ej,hfr.defers,Bool.and_true];exact hr⟩ undef) hcs) rfl _ (fun _=>mem_row) fun y new=>rfl
   |recover=>
    intro x new
    have key:∀X:Option (ai × List bY),(∀v cs',X=some (v,cs')->∀c∈cs',dM c)->∀es:Array gO,(∀e∈es++#[],e∈new)->
      ∃g es',Bz g/\g.dying=none/\(∀e∈es',e∈new)/\∀y,CR es (match X with
       |some (v,callers)=>GStep.go { frame:=fr.finish v,callers,status:=.running,dying:=none } y
       |none=>GStep.go { frame:=fr.finish .nilIface,callers:=cs,status:=.running,dying:=none } y)=.go g y es':=by
     intro X hX es hes;cases X with
     |none=>exact⟨_,_,fK (hfr.finish .nilIface) hcs,rfl,hes,fun y=>rfl⟩
     |some z=>exact⟨_,_,fK (hfr.finish z.1) (hX z.1 z.2 rfl),rfl,hes,fun y=>rfl⟩
    refine .inr (.inr (.inr (.inl ?_)));cases hro:fr.roundOf with
    |none=>
     simp only[BR,hro];exact key (tryRecover fr cs) (fun v cs' e=>mU hcs e) _ fun e=>ug
    |some l=>
     by_cases hf:P.follows .rangeFuncRecover=true
     .simp only[BR,hro,hf,if_true];exact key (tryRecover fr cs) (fun v cs' e=>mU hcs e) _ fun e=>ug
     simp only[BR,hro,hf,if_false];exact key (tryRecoverLoop l cs) (fun v cs' e=>lJ hcs e) _ fun e=>ug
   |comm c b sh=>exact fun x new=>.inr (.inr (.inr (.inr ⟨_,_,_,_,_,fK hfr hcs,⟨rfl,rfl⟩,fun e=>ug,fun y=>rfl⟩)))
   |spawn d=>
    intro x new;dsimp only[BR];generalize (P.follows .goNilFatal&&_&&d.args.isEmpty&&fr.noResult P)=c;cases c with
    |true=>
     obtain⟨g,y,es',e,hd⟩:=Eg (P:=P) fr "go of nil func value" x;exact .inr (.inl ⟨g,y,_,by rw[if_pos rfl,e];rfl,hd⟩)
    |false=>exact .inr (.inr (.inl ⟨_,_,_,_,rfl⟩))
   |_=>exact hr.elim
  |error h=>
   cases h with
   |panic v=>exact lR.go (fK (hfr.raise _) hcs) rfl _ (fun _=>mem_row) fun y new=>rfl
   |goexit=>exact lR.go (fK (hfr.raise _) hcs) rfl _ (fun _=>mem_row) fun y new=>rfl
   |blocked=>exact absurd rfl hr.1
   |waiting=>exact absurd rfl hr.2
   |exit c=>exact lR.ended fun x new=>⟨_,_,_,rfl⟩
   |fatal m=>
    intro x new;dsimp only[BR];rcases vH (P:=P) fr cs none m x with⟨o,y,es',e⟩|⟨g,y,es',e,hd⟩
    .rw[e];exact .inl ⟨_,_,_,rfl⟩
    rw[e];exact .inr (.inl ⟨_,_,_,rfl,hd⟩)
   |throw m=>exact lR.Gk fun x new=>⟨_,_,_,rfl,.inl rfl,_,rfl,rfl,NoEnter.nil P⟩
   |unsupported u=>
    intro x new;dsimp only[BR];cases u with
    |initOrder g=>
     dsimp only;obtain⟨o,es',e⟩:=NC T fr cs none g x;rw[e];exact .inl ⟨_,_,_,rfl⟩
    |_=>exact .inl ⟨_,_,_,rfl⟩
   |stuck s=>exact lR.ended fun x new=>⟨_,_,_,rfl⟩
end
section
variable{P:aK}{lw w:ak}
theorem yH(T:Quiet P){fr:bY}{cs:List bY}(hfr:dM fr)(hcs:∀c∈cs,dM c)(v:ai) :
  (∃g,Bz g/\g.dying=none/\∀y,vw P true fr cs none v y=.go g y #[])\/(∀y,∃o,vw P true fr cs none v y=.ended o y #[]):=by
 cases cs with
 |cons c rest=>
  have hc:=hcs c (dJ ..);have AA:∀c∈rest,dM c:=fun x hx=>hcs x (bW _ hx);cases hk:fr.kind with
  |normal=>exact .inl ⟨_,fK (hc.finish v) AA,rfl,fun y=>by simp only[vw,hk];rfl⟩
  |wrapped=>exact .inl ⟨_,fK (hc.finish v) AA,rfl,fun y=>by simp only[vw,hk];rfl⟩
  |early=>exact .inl ⟨_,fK hc AA,rfl,fun y=>by simp only[vw,hk];rfl⟩
  |_=>
   refine .inl ⟨_,fK ?_ AA,rfl,fun y=>by simp only[vw,hk];rfl⟩;split
   .split<;>exact hc.mode _
   exact hc
 |nil=>
  have key:fr.kind≠.report->∀y,vw P true fr [] none v y=(match P.inits.idxOf? fr.fn with
    |some k=>.go { frame:=eL P (P.initFrom (k+1)) #[] .normal,callers:=[],status:=.running,dying:=none } y
    |none=>.ended (.done v) y):=fun hk y=>by
   unfold vw;cases rU:fr.kind<;>first|exact absurd rU hk|rfl
  by_cases hk:fr.kind=.report
  .exact .inr fun y=>⟨.stuck "report: Error or String returned no string" "",by obtain⟨fn,tmps,todo,defers,mode,kind,roundOf⟩:=fr;simp only at hk;subst hk;cases v<;>rfl⟩
  .cases hi:P.inits.idxOf? fr.fn with
   |some k=>exact .inl ⟨_,fK (cs:=[]) (oZ T _ _ _) sN,rfl,fun y=>by rw[key hk,hi]⟩
   |none=>exact .inr fun y=>⟨_,by rw[key hk,hi]⟩
theorem AW[vP](T:Quiet P){fr:bY}{cs:List bY}(hfr:dM fr)(hcs:∀c∈cs,dM c){s:iZ ai}(hs:Calm P Any s)(dp:dL lw)(V:jG lw w)(F:ak->GStep)
  (h:∃K:Result ai × Array gO->GStep,(∀y,F y=K (s.runT P y #[]))/\(∀v es,∃es',(∀e∈es'++#[],e∈es)/\∀x,K (.ok v x,es)=.after es' (vw P true fr cs none v x))/\(∀h x es,∃o es',K (.halt h x,es)=.ended o x es')) :
  JI P lw (F lw) (fun I d=>F (dR w I d)):=by
 obtain⟨K,h1,h2,h3⟩:=h;refine zX hs dp V F ⟨K,h1,fun why x es=>h3 _ x es,fun r hr=>?_⟩;cases r with
 |error h=>exact lR.ended fun x new=>by obtain⟨o,es',e⟩:=h3 h x new;exact⟨_,_,_,e⟩
 |ok v=>
  intro x new;rcases yH T hfr hcs v with⟨g,hg,hgd,e⟩|e
  .refine .inr (.inr (.inr (.inl ?_)));obtain⟨es',he,e2⟩:=h2 v new;exact⟨g,_,hg,hgd,he,fun y=>by rw[show BR (.ok v) y=.ok v y from rfl,e2,e];rfl⟩
  obtain⟨o,e⟩:=e x;obtain⟨es',he,e2⟩:=h2 v new;exact .inl ⟨o,x,_,by rw[show BR (.ok v) x=.ok v x from rfl,e2,e];rfl⟩
theorem fZ{es:Array gO}{p:aK}{fn:en}:∀e,e∈seen p fn es++#[]->e∈es:=fun e h=>by
 rw[eA] at h;exact mem_seen h
theorem CB[vP](T:Quiet P){fr:bY}{cs:List bY}(hfr:dM fr)(hcs:∀c∈cs,dM c){d:Deferred}(hd:qx d=true)(dp:dL lw)(V:jG lw w) :
  JI P lw (callDeferred P fr cs none d lw) (fun I d'=>callDeferred P fr cs none d (dR w I d')):=by
 by_cases hn:((d.target matches .nil)&&(fr.mode matches .panicking _))=true
 .have:∀y,∃o,callDeferred P fr cs none d y=.ended o y #[]:=fun y=>⟨_,by unfold callDeferred;exact if_pos hn⟩
  obtain⟨o,e⟩:=this lw;rw[e];trivial
 refine zX (sS T.toXu d.target d.args hd) dp V (fun y=>callDeferred P fr cs none d y) ⟨?K,fun y=>?_,?_,?_⟩
 rotate_left
 .unfold callDeferred;refine(if_neg hn).trans ?_;generalize (invoke d.target d.args).runT P y #[]=x;exact rfl
 .intro why x es;exact⟨_,_,rfl⟩
 .intro r hr;cases r with
  |ok n=>
   cases n with
   |enter f args=>exact lR.go (fK (oZ T f args _) (EK hfr hcs)) rfl _ (fun _=>fZ) fun y new=>rfl
   |round l f tmps a b=>exact lR.go (fK (yF hr.1 hr.2 _) (EK hfr hcs)) rfl _ (fun _=>fZ) fun y new=>rfl
   |recover=>
    intro x new;refine .inr (.inr (.inr (.inl ?_)));cases hm:fr.mode with
    |returning=>
     cases ht:tryRecover fr cs with
     |none=>exact⟨_,_,fK hfr hcs,rfl,fZ,fun y=>by simp only[BR,hm,ht];rfl⟩
     |some z=>exact⟨_,_,fK hfr (mU (v:=z.1) (cs':=z.2) hcs ht),rfl,fZ,fun y=>by simp only[BR,hm,ht];rfl⟩
    |_=>exact⟨_,_,fK hfr hcs,rfl,fZ,fun y=>by simp only[BR,hm];rfl⟩
   |value v=>exact lR.go (fK hfr hcs) rfl _ (fun _=>fZ) fun y new=>rfl
   |skip=>exact lR.go (fK hfr hcs) rfl _ (fun _=>fZ) fun y new=>rfl
   |defer d=>exact lR.go (fK hfr hcs) rfl _ (fun _=>fZ) fun y new=>rfl
   |comm c b sh=>exact lR.go (fK hfr hcs) rfl _ (fun _=>fZ) fun y new=>rfl
   |spawn d=>exact lR.go (fK hfr hcs) rfl _ (fun _=>fZ) fun y new=>rfl
   |_=>exact hr.elim
  |error h=>
   cases h with
   |panic v=>exact lR.go (fK (hfr.raise _) hcs) rfl _ (fun _=>fZ) fun y new=>rfl
   |goexit=>exact lR.go (fK (hfr.raise _) hcs) rfl _ (fun _=>fZ) fun y new=>rfl
   |blocked=>exact absurd rfl hr.1
   |waiting=>exact absurd rfl hr.2
   |exit c=>exact lR.ended fun x new=>⟨_,_,_,rfl⟩
   |fatal m=>
    intro x new;dsimp only[BR];rcases vH (P:=P) fr cs none m x with⟨o,y,es',e⟩|⟨g,y,es',e,hd⟩
    .rw[e];exact .inl ⟨_,_,_,rfl⟩
    rw[e];exact .inr (.inl ⟨_,_,_,rfl,hd⟩)
   |throw m=>exact lR.Gk fun x new=>⟨_,_,_,rfl,.inl rfl,_,rfl,rfl,NoEnter.nil P⟩
   |unsupported u=>exact lR.ended fun x new=>⟨_,_,_,rfl⟩
   |stuck s=>exact lR.ended fun x new=>⟨_,_,_,rfl⟩
theorem qM[vP]{g:aC}(dp:dL lw)(V:jG lw w)(hg:Bz g)(hgd:g.dying=none)(F:ak->GStep)(h:∀y,F y=.go g y #[]):JI P lw (F lw) (fun I d=>F (dR w I d)):=by
 rw[h lw];exact UE dp V hg hgd fun I d=>h _
theorem mF[vP](F:ak->GStep)(h:∀y,∃o y' es,F y=.ended o y' es):JI P lw (F lw) (fun I d=>F (dR w I d)):=by
 obtain⟨o,y',es,e⟩:=h lw;rw[e];trivial
theorem Hp[vP](F:ak->GStep)(h:(∃o y' es,F lw=.ended o y' es)\/∃g y es,F lw=.go g y es/\g.dyingOn P):JI P lw (F lw) (fun I d=>F (dR w I d)):=by
 rcases h with⟨o,y',es,e⟩|⟨g,y,es,e,hd⟩
 .rw[e];trivial
 rw[e];exact .inl hd
theorem OA[vP](T:Quiet P){fr:bY}{cs:List bY}(hfr:dM fr)(hcs:∀c∈cs,dM c)(dp:dL lw)(V:jG lw w) :
  JI P lw (mM P true fr cs none lw) (fun I d=>mM P true fr cs none (dR w I d)):=by
 obtain⟨ft,fd⟩:=hfr;obtain⟨fn,tmps,todo,defers,mode,kind,roundOf⟩:=fr;simp only at ft fd;cases defers with
 |cons d ds=>
  simp only[ej,aI] at fd;obtain⟨target,args⟩:=d;cases target with
  |collected block=>
   refine zX (P:=P) (A8 block) dp V (fun y=>mM P true _ cs none y) ⟨?K,fun y=>?_,?_,?_⟩
   rotate_left
   .unfold mM;dsimp only;generalize (Instr.takeDeferred block).runT P y #[]=x;exact rfl
   .intro why x es;exact⟨_,_,rfl⟩
   .intro r hr;cases r with
    |ok calls=>exact lR.go (fK ⟨ft,by show(calls++ds).all qx=true;rw[List.all_append,fd.2,Bool.and_true];exact hr⟩ hcs) rfl _ (fun _=>fZ) fun y new=>rfl
    |error h=>exact lR.ended fun x new=>⟨_,_,_,rfl⟩
  |_=>exact CB T (fr:=⟨fn,tmps,todo,ds,mode,kind,roundOf⟩) ⟨ft,fd.2⟩ hcs fd.1 dp V
 |nil=>
  cases mode with
  |run=>exact mF (fun y=>mM P true _ cs none y) fun y=>⟨_,_,_,rfl⟩
  |panicking chain=>
   by_cases hc:(Frame.catches P ⟨fn,tmps,todo,[],.panicking chain,kind,roundOf⟩)=true
   .exact mF (fun y=>mM P true _ cs none y) fun y=>⟨_,_,_,by unfold mM;simp only[hc,if_true];rfl⟩
   .cases cs with
    |cons c rest=>
     exact qM dp V (fK ((hcs c (dJ ..)).raise chain) fun x hx=>hcs x (bW _ hx)) rfl (fun y=>mM P true _ _ none y) fun y=>by unfold mM;simp only[hc];rfl
    |nil=>
     by_cases hg:(chain.head?.any (·.goexit))=true
     .exact qM (g:=⟨⟨fn,tmps,todo,[],.panicking chain,kind,roundOf⟩,[],.finished,none,none⟩) dp V ⟨⟨ft,rfl⟩,sN,.inr rfl⟩ rfl (fun y=>mM P true _ _ none y) fun y=>by unfold mM;simp only[hc,hg,if_true];rfl
     refine Hp (fun y=>mM P true _ [] none y) ?_;unfold mM;simp only[hc,hg,if_false,bF];split
     .exact .inr ⟨_,_,_,rfl,.inl rfl,_,rfl,rfl,T.enters _⟩
     .exact .inl ⟨_,_,_,rfl⟩
     exact .inl ⟨_,_,_,rfl⟩
  |returning=>
   cases hf:P.funcs[fn]? with
   |none=>
    rcases yH T (fr:=⟨fn,tmps,todo,[],.returning,kind,roundOf⟩) ⟨ft,rfl⟩ hcs (tmps.getD 0 undef) with⟨g,hg,hgd,e⟩|e
    .exact qM dp V hg hgd (fun y=>mM P true _ cs none y) fun y=>by unfold mM;simp only[hf];exact e y
    exact mF (fun y=>mM P true _ cs none y) fun y=>by
     obtain⟨o,e⟩:=e y;exact⟨o,y,#[],by unfold mM;simp only[hf];exact e⟩
   |some fn'=>
    refine AW T (fr:=⟨fn,tmps,todo,[],.returning,kind,roundOf⟩) ⟨ft,rfl⟩ hcs (A_ fn' tmps) dp V (fun y=>mM P true _ cs none y) ⟨?K2,fun y=>?_,?_,?_⟩
    rotate_left
    .unfold mM;simp only[hf];generalize (results fn' tmps).runT P y #[]=x;exact rfl
    .intro v es;exact⟨_,fZ,fun x=>rfl⟩
    intro h x es;cases h<;>exact⟨_,_,rfl⟩
end
section
variable{P:aK}{lw w:ak}
theorem QT{x:Item}{l:List Item}(h:(x::l).all je=true):je x=true/\l.all je=true:=by
 simpa only[ej,aI] using h
theorem Sw[vP](T:Quiet P){fr:bY}{cs:List bY}(hfr:dM fr)(hcs:∀c∈cs,dM c)(dp:dL lw)(V:jG lw w){l:Nat}(jump:Option Code)(hj:jump.all eo=true)(F:ak->GStep)
  (h:∃K:Result ai × Array gO->GStep,(∀y,F y=K ((Instr.endRound l jump).runT P y #[]))/\(∀v es,∃es',(∀e∈es'++#[],e∈es)/\∀x,K (.ok v x,es)=.after es' (vw P true fr cs none v x))/\(∀h x es,∃o es',K (.halt h x,es)=.ended o x es')) :
  JI P lw (F lw) (fun I d=>F (dR w I d)):=AW T hfr hcs (Io l jump hj) dp V F h
theorem U4[vP](T:Quiet P){fr:bY}{cs:List bY}(hfr:dM fr)(hcs:∀c∈cs,dM c)(dp:dL lw)(V:jG lw w) :
  JI P lw (fC P true fr cs none lw) (fun I d=>fC P true fr cs none (dR w I d)):=by
 cases ho:fr.oper? with
 |none=>exact mF (fun y=>fC P true fr cs none y) fun y=>⟨_,_,_,by unfold fC;rw[ho]⟩
 |some o=>
  have hoo:BP o=true:=by
   unfold Frame.oper? at ho;split at ho
   .rename_i aM i rest k e;have:=hfr.todo;rw[e] at this;have h1:=(QT this).1;simp only[je,Array.all_eq_true] at h1;obtain⟨hi,rfl⟩:=ag.1 ho;exact h1 i hi
   cases ho
  have gen:∀y,(∀c l,fr.roundOf=some l->o.op≠.defer c)->fC P true fr cs none y=eH P true fr cs none (execOp fr.eval o) y:=fun y hn=>by
   unfold fC;rw[ho];cases hr:fr.roundOf with
   |none=>rfl
   |some l=>
    dsimp only;split
    .rename_i e1 e2;exact absurd e2 (hn _ _ hr)
    rfl
  by_cases hd:∃c l,fr.roundOf=some l/\o.op=.defer c
  .obtain⟨c,l,hr,hop⟩:=hd
   have e:∀y,fC P true fr cs none y=eH P true fr cs none (do Instr.deferInRound l (<-resolve fr.eval c o.type);pure .skip) y:=fun y=>by
    unfold fC;rw[ho];simp only[hr,hop]
   simp only[e];refine xT T hfr hcs ?_ dp V
   have hc:Kh c=true:=by
    unfold BP at hoo;rw[hop] at hoo;exact hoo
   exact fg (mI _ _ _ hc) fun d hd=>aQ (Ba l d hd) fun _=>trivial
  have hn:∀c l,fr.roundOf=some l->o.op≠.defer c:=fun c l h1 h2=>hd ⟨c,l,h1,h2⟩;simp only[fun y=>gen y hn];exact xT T hfr hcs (NV T.toXu _ _ hoo) dp V
theorem Sb[vP]{s:GStep}{f}(h:JI P lw s f){es:Array gO}(he:∀e∈es,CH lw.heap.size e):JI P lw (CR es s) (fun I d=>CR es (f I d)):=by
 cases s with
 |ended=>trivial
 |spawn=>trivial
 |go g' eP es'=>
  rcases h with h|⟨hg,hgd,w',k,hb,hf⟩
  .exact .inl h
  refine .inr ⟨hg,hgd,w',k,⟨hb.tape,hb.drawn,hb.grows,hb.ok,fun e hx=>?_,hb.uN⟩,fun I d ha=>by dsimp only;rw[hf I d ha];rfl⟩;rcases IJ.1 hx with hx|hx
  .exact(he e hx).mono hb.grows
  exact hb.evs e hx
 |comm g' cs b sh eP es'=>
  obtain⟨hg,hd,w',k,hb,hf⟩:=h;refine⟨hg,hd,w',k,⟨hb.tape,hb.drawn,hb.grows,hb.ok,fun e hx=>?_,hb.uN⟩,fun I d ha=>by dsimp only;rw[hf I d ha];rfl⟩;rcases IJ.1 hx with hx|hx
  .exact(he e hx).mono hb.grows
  exact hb.evs e hx
 |_=>exact h.elim
theorem xU{a b:Nat}{I I':Nat->dV->Nat}{d d':Nat}(h:Agree (a+b) I d I' d'):Agree a I d I' d'/\Agree b I (d+a) I' (d'+a):=
 ⟨h.le oN,fun i hi=>by have:=h (a+i) oN;rwa [<-oa,<-oa] at this⟩
theorem R_[vP]{eP:ak}{s:GStep}{f f'}{n:Nat}(h:JI P eP s f')(ht:eP.tape=lw.tape)(hd:eP.drawn=lw.drawn+n)(hs:lw.heap.size<=eP.heap.size)
  (hf:∀I d,Agree n lw.tape lw.drawn I d->f I d=f' I (d+n)):JI P lw s f:=by
 cases s with
 |ended=>trivial
 |spawn=>trivial
 |go g' lw2 es'=>
  rcases h with h|⟨hg,hgd,w',k,hb,hf'⟩
  .exact .inl h
  refine .inr ⟨hg,hgd,w',n+k,⟨hb.tape.trans ht,by rw[hb.drawn,hd];omega,aG hs hb.grows,hb.ok,hb.evs,hb.uN⟩,fun I d ha=>?_⟩;obtain⟨h1,h2⟩:=xU ha;rw[hf I d h1,hf' I (d+n) (by rw[ht,hd];exact h2),oa]
 |comm g' cs b sh lw2 es'=>
  obtain⟨hg,Oo,w',k,hb,hf'⟩:=h;refine⟨hg,Oo,w',n+k,⟨hb.tape.trans ht,by rw[hb.drawn,hd];omega,aG hs hb.grows,hb.ok,hb.evs,hb.uN⟩,fun I d ha=>?_⟩;obtain⟨h1,h2⟩:=xU ha;rw[hf I d h1,hf' I (d+n) (by rw[ht,hd];exact h2),oa]
 |_=>exact h.elim
theorem WA[vP](T:Quiet P){fr:bY}{cs:List bY}(hfr:dM fr)(hcs:∀c∈cs,dM c)(dp:dL lw)(V:jG lw w) :
  JI P lw (cM P true true fr cs none lw) (fun I d=>cM P true true fr cs none (dR w I d)):=by
 have hfr0:=hfr;obtain⟨ft,fd⟩:=hfr;obtain⟨fn,tmps,todo,defers,mode,kind,roundOf⟩:=fr;simp only at ft fd
 have leave:∀(jump:Option Code),jump.all eo=true->∀F:ak->GStep,(∀y,F y=(match (generalizing:=false) roundOf with
   |none=>if jump matches none|some .ret then .go { frame:={ fn:=fn,tmps:=tmps,todo:=todo,defers:=defers,mode:=.returning,kind:=kind,roundOf:=roundOf },callers:=cs,status:=.running,dying:=none } y
     else .ended (.stuck "exit, goto: no such block or label" (Frame.pos P ⟨fn,tmps,todo,defers,mode,kind,roundOf⟩)) y
   |some l=>
    let (r,es):=(Instr.endRound l jump).runT P y #[]
    CR (seen P fn es) <| match r with
    |.ok v w=>vw P true ⟨fn,tmps,todo,defers,mode,kind,roundOf⟩ cs none v w
    |.halt _ w=>.ended (.stuck "range over a function: no such loop" (Frame.pos P ⟨fn,tmps,todo,defers,mode,kind,roundOf⟩)) w))->
   JI P lw (F lw) (fun I d=>F (dR w I d)):=by
  intro jump hj F hF;cases roundOf with
  |none=>
   by_cases hm:(match (generalizing:=false) jump with|none|some .ret=>true|_=>false)=true
   .exact qM dp V (fK (fr:={ fn:=fn,tmps:=tmps,todo:=todo,defers:=defers,mode:=.returning,kind:=kind,roundOf:=none }) ⟨ft,fd⟩ hcs) rfl F fun y=>(hF y).trans (if_pos hm)
   exact mF F fun y=>⟨_,_,_,(hF y).trans (if_neg hm)⟩
  |some l=>
   refine Sw T hfr0 hcs dp V (l:=l) jump hj F ⟨?K,fun y=>?_,?_,?_⟩
   rotate_left
   .rw[hF y];dsimp only;generalize (Instr.endRound l jump).runT P y #[]=x;exact rfl
   .intro v es;exact⟨_,fZ,fun x=>rfl⟩
   intro h x es;exact⟨_,_,rfl⟩
 have to:∀(t:List Item),t.all je=true->∀F:ak->GStep,(∀y,F y=.go { frame:={ fn:=fn,tmps:=tmps,todo:=t,defers:=defers,mode:=mode,kind:=kind,roundOf:=roundOf },callers:=cs,status:=.running,dying:=none } y #[])->
   JI P lw (F lw) (fun I d=>F (dR w I d)):=fun t ht F hF=>qM dp V (fK ⟨ht,fd⟩ hcs) rfl F hF
 have ended:∀F:ak->GStep,(∀y,∃o y' es,F y=.ended o y' es)->JI P lw (F lw) (fun I d=>F (dR w I d)):=fun F hF=>mF F hF;cases todo with
 |nil=>exact leave none rfl (fun y=>cM P true true _ cs none y) fun y=>rfl
 |cons x k=>
  obtain⟨hx,hk⟩:=QT ft;have cons:∀(y:Item) (l:List Item),je y=true->l.all je=true->(y::l).all je=true:=fun y l h1 h2=>by rw[ej,h1,h2];rfl
  cases x with
  |inBlock id=>exact to k hk (fun y=>cM P true true _ cs none y) fun y=>rfl
  |inScope body=>exact to k hk (fun y=>cM P true true _ cs none y) fun y=>rfl
  |inLoop body=>exact to _ (cons (.code body) _ hx (cons (.inLoop body) _ hx hk)) (fun y=>cM P true true _ cs none y) fun y=>rfl
  |inRegion aM l=>
   cases l with
   |nil=>exact to k hk (fun y=>cM P true true _ cs none y) fun y=>rfl
   |cons i rest=>
    by_cases hw:(((aM[i]?).map (Region.wanted · (yielded aM tmps))).getD false)=true
    .have e:∀y,cM P true true ⟨fn,tmps,.inRegion aM (i::rest)::k,defers,mode,kind,roundOf⟩ cs none y=fC P true ⟨fn,tmps,.inRegion aM (i::rest)::k,defers,mode,kind,roundOf⟩ cs none y:=fun y=>if_pos hw;simp only[e];exact U4 T hfr0 hcs dp V
    exact qM dp V (fK (hfr0.finish undef) hcs) rfl (fun y=>cM P true true _ cs none y) fun y=>if_neg hw
  |inRangeFunc l=>exact ended (fun y=>cM P true true _ cs none y) fun y=>⟨_,_,_,rfl⟩
  |endRangeFunc l=>
   refine zX (P:=P) (Lb l) dp V (fun y=>cM P true true _ cs none y) ⟨?K1,fun y=>?_,?_,?_⟩
   rotate_left
   .unfold cM;dsimp only;generalize (Instr.endLoop l).runT P y #[]=x;exact rfl
   .intro why x es;exact⟨_,_,rfl⟩
   .intro r hr;cases r with
    |ok jump=>
     have ht:((jump.map Item.code).toList++k).all je=true:=by
      rw[List.all_append,hk,Bool.and_true];cases jump with
      |none=>rfl
      |some c=>
       have:eo c=true:=hr;simp[je,this]
     exact lR.go (fK (fr:={ fn:=fn,tmps:=tmps,todo:=(jump.map Item.code).toList++k,defers:=defers,mode:=mode,kind:=kind,roundOf:=roundOf }) ⟨ht,fd⟩ hcs) rfl _ (fun _=>fZ) fun y new=>rfl
    |error h=>
     cases h with
     |panic v=>exact lR.go (fK (hfr0.raise _) hcs) rfl _ (fun _=>fZ) fun y new=>rfl
     |_=>exact lR.ended fun x new=>⟨_,_,_,rfl⟩
  |beginRound=>
   refine xT T hfr0 hcs ?_ dp V;cases roundOf with
   |none=>exact aQ (bG (Q:=Any)) fun _=>trivial
   |some l=>exact aQ (Ek l) fun _=>trivial
  |call d a b c=>exact absurd hx (by simp[je])
  |extern r a=>exact absurd hx (by simp[je])
  |code c=>
   have hc:eo c=true:=hx;cases c with
   |ret=>exact leave (some .ret) rfl (fun y=>cM P true true _ cs none y) fun y=>rfl
   |skip=>exact to k hk (fun y=>cM P true true _ cs none y) fun y=>rfl
   |label l=>exact to k hk (fun y=>cM P true true _ cs none y) fun y=>rfl
   |seq a b=>
    simp only[eo,aI] at hc;exact to _ (cons (.code a) _ hc.1 (cons (.code b) _ hc.2 hk)) (fun y=>cM P true true _ cs none y) fun y=>rfl
   |cond c t e=>
    simp only[eo,aI] at hc
    by_cases hb:∃b,Frame.eval ⟨fn,tmps,.code (.cond c t e)::k,defers,mode,kind,roundOf⟩ c=.bool b
    .obtain⟨b,hb⟩:=hb
     have e:∀y,cM P true true ⟨fn,tmps,.code (.cond c t e)::k,defers,mode,kind,roundOf⟩ cs none y=.go { frame:={ fn:=fn,tmps:=tmps,todo:=.code (if b then t else e)::k,defers:=defers,mode:=mode,kind:=kind,roundOf:=roundOf },callers:=cs,status:=.running,dying:=none } y #[]:=fun y=>by
      unfold cM;simp only[hb]
     exact to _ (cons _ _ (by cases b;exact hc.2;exact hc.1) hk) (fun y=>cM P true true _ cs none y) e
    refine ended (fun y=>cM P true true _ cs none y) fun y=>⟨.stuck "cond: bool expected" (Frame.pos P ⟨fn,tmps,.code (.cond c t e)::k,defers,mode,kind,roundOf⟩),y,#[],?_⟩
    unfold cM;dsimp only;split
    .rename_i b hb';exact absurd ⟨b,hb'⟩ hb
    exact rfl
   |block id body=>exact to _ (cons (.code body) _ hc (cons (.inBlock id) _ rfl hk)) (fun y=>cM P true true _ cs none y) fun y=>rfl
   |loop body=>exact to _ (cons (.code body) _ hc (cons (.inLoop body) _ hc hk)) (fun y=>cM P true true _ cs none y) fun y=>rfl
   |scope body=>exact to _ (cons (.code body) _ hc (cons (.inScope body) _ hc hk)) (fun y=>cM P true true _ cs none y) fun y=>rfl
   |exit id=>
    cases he:exitTo id k with
    |none=>exact leave (some (.exit id)) rfl (fun y=>cM P true true _ cs none y) fun y=>by unfold cM;simp only[he];rfl
    |some k'=>exact to k' (Cl hk he) (fun y=>cM P true true _ cs none y) fun y=>by unfold cM;simp only[he];rfl
   |goto l=>
    cases he:gotoIn l k with
    |none=>exact leave (some (.goto l)) rfl (fun y=>cM P true true _ cs none y) fun y=>by unfold cM;simp only[he];rfl
    |some k'=>exact to k' (Ch hk he) (fun y=>cM P true true _ cs none y) fun y=>by unfold cM;simp only[he];rfl
   |refuse why=>exact ended (fun y=>cM P true true _ cs none y) fun y=>⟨_,_,_,rfl⟩
   |region id aM draw=>
    cases draw with
    |false=>exact to _ (cons (.inRegion aM _) _ hc hk) (fun y=>cM P true true _ cs none y) fun y=>rfl
    |true=>
     have e:∀y:ak,cM P true true ⟨fn,tmps,.code (.region id aM true)::k,defers,mode,kind,roundOf⟩ cs none y =
       .go { frame:={ fn:=fn,tmps:=tmps,todo:=.inRegion aM (Region.schedule (P.follows .mixedOrders) aM (y.tape y.drawn (.order fn id)))::k,defers:=defers,mode:=mode,kind:=kind,roundOf:=roundOf },callers:=cs,status:=.running,dying:=none } { y with drawn:=y.drawn+1 } #[]:=fun y=>rfl
     rw[e lw];refine .inr ⟨fK (fr:={ fn:=fn,tmps:=tmps,todo:=.inRegion aM _::k,defers:=defers,mode:=mode,kind:=kind,roundOf:=roundOf }) ⟨cons (.inRegion aM _) _ hc hk,fd⟩ hcs,rfl,w,1,⟨rfl,rfl,aJ _,dp,sN,⟨V.size,V.os,V.out,V.at_,V.old,V.kept⟩⟩,fun I d ha=>?_⟩;dsimp only;rw[e];have h0:lw.tape lw.drawn=I d:=ha 0 oN;rw[h0];rfl
   |rangeFunc f params assign body=>
    simp only[eo,aI] at hc
    have Jm:∀x:bY,Calm P fj (do let d <-resolve x.eval { callee:=.value f,args:=#[.const (.func (.yield (0:Nat)) #[] #[])],argTypes:=#[] } 0;invoke d.target d.args):=fun x=>
     fg (mI _ _ _ rfl) fun d hd=>sS T.toXu _ _ hd
    rcases xP (GD (P:=P) fn tmps params assign body roundOf hc.1 hc.2) dp V with⟨why,eP,h⟩|⟨eP,w',n,r,new,h⟩
    .obtain⟨es,he⟩:=h #[]
     have:∃o es',cM P true true ⟨fn,tmps,.code (.rangeFunc f params assign body)::k,defers,mode,kind,roundOf⟩ cs none lw=.ended o eP es':=by
      unfold cM;simp only[he];exact⟨_,_,rfl⟩
     obtain⟨o,es',e⟩:=this;rw[e];trivial
    .cases r with
     |error hh=>
      have:∃o es',cM P true true ⟨fn,tmps,.code (.rangeFunc f params assign body)::k,defers,mode,kind,roundOf⟩ cs none lw=.ended o eP es':=by
       unfold cM;simp only[h.lone #[]];exact⟨_,_,rfl⟩
      obtain⟨o,es',e⟩:=this;rw[e];trivial
     |ok z=>
      obtain⟨l,mark⟩:=z;have hm:mark.all qx=true:=h.res;have ajp:dM ⟨fn,tmps,.inRangeFunc l::k,mark++defers,mode,kind,roundOf⟩:=⟨cons (.inRangeFunc l) _ rfl hk,by show(mark++defers).all qx=true;rw[List.all_append,hm,fd];rfl⟩
      have key:∀(y y':ak) (new:Array gO),(Instr.enterLoop fn tmps params assign body roundOf).runT P y #[]=(.ok (l,mark) y',new)->cM P true true ⟨fn,tmps,.code (.rangeFunc f params assign body)::k,defers,mode,kind,roundOf⟩ cs none y =
        CR (seen P fn new) (eH P true ⟨fn,tmps,.inRangeFunc l::k,mark++defers,mode,kind,roundOf⟩ cs none (do let d <-resolve (Frame.eval ⟨fn,tmps,.inRangeFunc l::k,mark++defers,mode,kind,roundOf⟩) { callee:=.value f,args:=#[.const (.func (.yield l) #[] #[])],argTypes:=#[] } 0;invoke d.target d.args) y'):=fun y y' new e=>by
       rw[cM];dsimp only;rw[e]
      have hl:=h.lone #[];rw[fD] at hl;rw[key lw eP new hl];have inner:=xT (lw:=eP) (w:=w') T ajp hcs (s:=(do let d <-resolve (Frame.eval ⟨fn,tmps,.inRangeFunc l::k,mark++defers,mode,kind,roundOf⟩) { callee:=.value f,args:=#[.const (.func (.yield l) #[] #[])],argTypes:=#[] } 0;invoke d.target d.args)) (fg (mI _ _ _ rfl) fun d hd=>sS T.toXu _ _ hd) h.ok h.uN;refine R_ (Sb inner (es:=seen P fn new) fun e he=>h.evs e (mem_seen he)) h.tape h.drawn h.grows fun I d ha=>?_;have hm2:=h.many I d ha #[];rw[fD] at hm2;exact key _ _ _ hm2
theorem I1[vP](T:Quiet P){g:aC}(hg:Bz g)(hd:g.dying=none)(dp:dL lw)(V:jG lw w) :
  JI P lw (fE P true g lw) (fun I d=>fE P true g (dR w I d)):=by
 obtain⟨fr,cs,st,dy,off⟩:=g;simp only at hd;subst hd;obtain⟨hf,hc,_⟩:=hg;cases hm:fr.mode with
 |run=>
  have e:∀y,fE P true ⟨fr,cs,st,none,off⟩ y=cM P true true fr cs none y:=fun y=>by unfold fE;simp only[hm]
  simp only[e];exact WA T hf hc dp V
 |_=>
  have e:∀y,fE P true ⟨fr,cs,st,none,off⟩ y=mM P true fr cs none y:=fun y=>by unfold fE;simp only[hm]
  simp only[e];exact OA T hf hc dp V
end
open Go.Conc
def mD(gs:Array aC):Prop:=∀g∈gs,g.status≠.blocked
def mW{gs:Array aC}(h:mD gs)(r:Nat)(b:Bool):partners gs r b=[]:=by
 unfold partners;rw[List.flatMap_eq_nil_iff];rintro⟨g,i⟩ hx
 have hg:g∈gs:=by
  have:(g,i)∈gs.toList.zipIdx:=by simpa using hx
  exact Array.mem_toList_iff.1 (List.fst_mem_of_mem_zipIdx this)
 have:=h g hg;dsimp only;split
 .rename_i e _;exact absurd e this
 rfl
def IQ{gs:Array aC}(h:mD gs)(w:ak)(c:nA):ways w gs c=ways w #[] c:=by
 unfold ways;simp only[mW h,mW (gs:=#[]) (by intro g hg;simp at hg)]
def RS[vP]{lw w:ak}(V:jG lw w)(c:nA):ways w #[] c=ways lw #[] c:=by
 unfold ways;split
 .rename_i r _;rcases V.at_ r with h|⟨h1,o,h2,h3⟩
  .rw[h]
  rw[h1,h2]
  have:∀cap buf cl s r tm,o≠.chan cap buf cl s r tm:=by
   intro cap buf cl s r tm e;subst e;cases h3
  cases o<;>first|rfl|exact absurd rfl (this _ _ _ _ _ _)
 rfl
def LL(w:ak)(c:nA):ways w #[] c=[]\/ways w #[] c=[.sendClosed]\/ways w #[] c=[.buffer]\/ways w #[] c=[.closed]:=by
 unfold ways;have e:∀r b,partners #[] r b=[]:=fun r b=>mW (by intro g hg;simp at hg) r b;simp only[e];split
 .split
  .split
   .simp
   split<;>simp
  .split
   .simp
   split<;>simp
  simp
 simp
def RU{w:ak}{c:nA}(h:ways w #[] c≠[]):∃r cap buf cl s rc tm,c.chan=.chan (some r)/\w.heap[r]?=some (Obj.chan cap buf cl s rc tm):=by
 unfold ways at h;split at h
 .rename_i r hr;split at h
  .rename_i h1 _;exact⟨r,_,_,_,_,_,_,hr,h1⟩
  .rename_i h1 _;exact⟨r,_,_,_,_,_,_,hr,h1⟩
  exact absurd rfl h
 exact absurd rfl h
def OU{P:aK}(ready:List (Nat × nA × List Way))(h1:∀y∈ready,y.2.2.length=1)(hne:ready≠[])(w:ak) :
  (do
   let a <-Bp (.select ready.length);let (k,c,ws):=ready.getD a (0,default,[])
   let b <-Bp (.extern "which waiting goroutine is the partner" ws.length)
   pure (k,c,ws.getD b .closed):iZ (Nat × nA × Way)).run P w =
  (if ready.length<=1 then .ok ((ready.getD 0 (0,default,[])).1,(ready.getD 0 (0,default,[])).2.1,(ready.getD 0 (0,default,[])).2.2.getD 0 .closed) w
   else .ok ((ready.getD (w.tape w.drawn (.select ready.length) % ready.length) (0,default,[])).1,(ready.getD (w.tape w.drawn (.select ready.length) % ready.length) (0,default,[])).2.1,(ready.getD (w.tape w.drawn (.select ready.length) % ready.length) (0,default,[])).2.2.getD 0 .closed) { w with drawn:=w.drawn+1 }):=by
 have hl:0<ready.length:=dB.2 hne
 have key:∀a,a<ready.length->(ready.getD a (0,default,[])).2.2.length=1:=fun a ha=>by
  rw[oq,bT ha];exact h1 _ (bS ha)
 by_cases hn:ready.length<=1
 .rw[if_pos hn];have:=key 0 hl;simp only[Bp,bind,Sem.bind,Sem.run,Question.forced,hn,decide_true,if_true,this];simp[pure,Sem.run]
 rw[if_neg hn];have:=key (w.tape w.drawn (.select ready.length) % ready.length) (Nat.mod_lt _ hl);simp only[Bp,bind,Sem.bind,Sem.run,Question.forced,hn,decide_false,Question.cut];simp only[bF,if_false,this];simp[pure,Sem.run]
def XM(B:Nat)(op:MemOp):Prop:=op.g=0/\∃r n m,r<B/\(op.act=.send r n\/op.act=.sendDone r n\/op.act=.recv r n m\/op.act=.recvDone r n\/op.act=.recvClosed r)
def any_congr{f f':nA->Bool}(h:∀c,f c=f' c)(cs:Array nA):cs.any f=cs.any f':=by rw[funext h]
def vy{rest:Rest}(h:rest.timers = #[])(cs:Array nA)(w:ak):waitingAt rest cs w=some w:=by
 unfold waitingAt
 have:timerAhead rest w.os.mono cs=false:=by
  unfold timerAhead;rw[h];rw[Array.any_eq_false];intro i hi;split<;>simp
 rw[this];rfl
section
variable{P:aK}{lw w:ak}
structure Z7[vP](P:aK)(g:aC)(cs:Array nA)(b:Bool)(sh:CommShape)(lw w:ak)(aM:Array MemOp)(g':aC)(eP w':ak)(k:Nat):Prop where
 gok:Bz g'
 dy:g'.dying=none
 run:g'.status=.running
 base:Base lw eP w' k #[]
 lists:∀op∈aM,XM lw.heap.size op
 many:∀(gs:Array aC) (rest:Rest),mD gs->rest.timers = #[]->∀I d,Agree k lw.tape lw.drawn I d->nu P rest gs 0 g cs b sh (dR w I d)=(.next { world:=dR w' I (d+k),gs:=gs.setIfInBounds 0 g',rest:=rest },aM)
theorem NK[vP](T:Quiet P){d0:aC}(hd0:d0.status≠.blocked){rest0:Rest}(KF:rest0.timers = #[])(dp:dL lw)(V:jG lw w)
  {g:aC} (hg:Bz g) (hgd:g.dying=none) (hgr:g.status=.running) {cs:Array nA} {b:Bool} {sh:CommShape} {m':Machine} {aM:Array MemOp} (hl:nu P rest0 #[d0] 0 g cs b sh lw=(.next m',aM)) :
  ∃g' eP,m'={ world:=eP,gs:=#[g'],rest:=rest0 }/\(g'.status=.blocked\/∃w' k,Z7 P g cs b sh lw w aM g' eP w' k):=by
 have Za:mD #[d0]:=by intro x hx;simp at hx;rw[hx];exact hd0
 have e0:∀c,ways lw #[d0] c=ways lw #[] c:=fun c=>IQ Za lw c;have e1:∀(gs:Array aC) (rD:mD gs) I d c,ways (dR w I d) gs c=ways lw #[] c:=fun gs rD I d c=>(IQ rD _ c).trans (RS (tW V I d) c);unfold nu at hl
 extract_lets put illMade me other ready pick at hl
 have hrw:∀y∈ready,y.2.2.length=1:=by
  intro y hy;obtain⟨h1,h2⟩:=kK.1 hy;obtain⟨⟨c,k⟩,hc,rfl⟩:=dW.1 h1;dsimp only at h2 ⊢;rcases LL lw c with h|h|h|h<;>rw[e0,h] at h2 ⊢<;>first|rfl|simp at h2
 split at hl
 .cases hl
 rename_i ab4;have M7:∀(I:Nat->dV->Nat) (d:Nat) (f:nA->Bool),(∀c,f c=illMade c)->¬cs.any f=true:=fun I d f hf hc=>ab4 ((any_congr (fun c=>(hf c).symm) cs).trans hc)
 by_cases hre:ready.isEmpty=true
 .
  have far:∀(gs:Array aC) (rest:Rest) (rD:mD gs) (ht:rest.timers = #[]) I d,nu P rest gs 0 g cs b sh (dR w I d) =
    if b=true then(.next { world:=dR w I d,gs:=gs.setIfInBounds 0 { g with status:=.blocked,offers:=some (cs,sh) },rest:=rest },#[])
    else(.next { world:=dR w I d,gs:=gs.setIfInBounds 0 (g.finishComm P cs sh (-1) undef false),rest:=rest },#[]):=by
   intro gs rest rD ht I d;unfold nu
   extract_lets put' Az Kf ready' pick'
   have hr:ready'=ready:=by simp only[ready,ready',e0,e1 gs rD]
   refine(if_neg (M7 I d _ fun c=>?_)).trans ?_
   .simp only[illMade,Az];split
    .rfl
    .rename_i r _;rcases(tW V I d).at_ r with h|⟨h1,o,h2,h3⟩
     .rw[h]
     rw[h1,h2];cases o<;>first|rfl|cases h3
    rfl
   rw[hr,if_pos hre,vy ht]
  rw[if_pos hre,vy KF] at hl;cases b with
  |true=>
   simp only[if_true] at hl;cases hl;exact⟨_,_,rfl,.inl rfl⟩
  |false=>
   simp only[bF,if_false,put] at hl;cases hl;exact⟨_,_,rfl,.inr ⟨w,0,⟨⟨hg.frame.finish _,hg.callers,.inl rfl⟩,hgd,rfl,JC dp V,sN,fun gs rest rD ht I d _=>by rw[far gs rest rD ht];rfl⟩⟩⟩
 have hne:ready≠[]:=by simpa using hre
 have Y6:∃n y,y∈ready/\pick.run P lw=.ok (y.1,y.2.1,y.2.2.getD 0 .closed) { lw with drawn:=lw.drawn+n }/\∀x:ak,(∀i,i<n->x.tape (x.drawn+i)=lw.tape (lw.drawn+i))->pick.run P x=.ok (y.1,y.2.1,y.2.2.getD 0 .closed) { x with drawn:=x.drawn+n }:=by
  have hr:=fun x=>OU (P:=P) ready hrw hne x;have hl0:0<ready.length:=dB.2 hne
  have hin:∀a,a<ready.length->ready.getD a (0,default,[])∈ready:=fun a ha=>by
   rw[oq,bT ha];exact bS ha
  by_cases hn:ready.length<=1
  .refine⟨0,ready.getD 0 (0,default,[]),hin 0 hl0,?_,fun x _=>?_⟩
   .exact(hr lw).trans (if_pos hn)
   exact(hr x).trans (if_pos hn)
  refine⟨1,ready.getD (lw.tape lw.drawn (.select ready.length) % ready.length) (0,default,[]),hin _ (Nat.mod_lt _ hl0),?_,fun x hx=>?_⟩
  .exact(hr lw).trans (if_neg hn)
  have h0:x.tape x.drawn=lw.tape lw.drawn:=hx 0 oN;refine(hr x).trans ((if_neg hn).trans ?_);rw[h0]
 obtain⟨n,y,hy,hp,hpx⟩:=Y6;rw[if_neg hre,hp] at hl
 have Lx:y.2.2=ways lw #[] y.2.1:=by
  obtain⟨h1,_⟩:=kK.1 hy;obtain⟨⟨c,k⟩,hc,rfl⟩:=dW.1 h1;exact e0 c
 obtain⟨k,c,ws⟩:=y;dsimp only at Lx hl hp hpx
 obtain⟨r,cap,buf,cl,aL,aen,tm,hcc,hh⟩:=RU (w:=lw) (c:=c) (by
  intro e;have:=hrw _ hy;dsimp only at this;rw[Lx,e] at this
  cases this)
 have hh2:w.heap[r]?=some (Obj.chan cap buf cl aL aen tm):=by
  rcases V.at_ r with h'|⟨h',_⟩
  .rw[<-h'];exact hh
  rw[hh] at h';cases h'
 have hb:∀nU w₁:ak,nU.tape=lw.tape->nU.drawn=lw.drawn+n->nU.heap.size=lw.heap.size->dL nU->jG nU w₁->Base lw nU w₁ n #[]:=fun nU w₁ h1 h2 h3 h4 h5=>⟨h1,h2,oN,h4,sN,h5⟩
 have hgf:∀k v o,Bz (g.finishComm P cs sh k v o):=fun k v o=>⟨hg.frame.finish _,hg.callers,.inl rfl⟩
 simp only[hcc,hh] at hl;rcases LL lw c with hw|hw|hw|hw
 .exfalso;have:=hrw _ hy;dsimp only at this;rw[Lx,hw] at this;cases this
 .
  have hw1:ws.getD 0 .closed=.sendClosed:=by rw[Lx,hw];rfl
  rw[hw1] at hl;dsimp only at hl;have V1:jG { lw with drawn:=lw.drawn+n } w:=⟨V.size,V.os,V.out,V.at_,V.old,V.kept⟩
  rcases xP (iU (P:=P) (.plain "send on closed channel")) (lw:={ lw with drawn:=lw.drawn+n }) (w:=w) dp V1 with⟨why,eP,h⟩|⟨eP,w',n2,r2,new,h⟩
  .obtain⟨es',he⟩:=h #[]
   have:(eO (.plain "send on closed channel"):iZ Unit).run P { lw with drawn:=lw.drawn+n }=.halt (.stuck why) eP:=by
    have e:=congrArg Prod.fst he;rwa [Sem.runT_eq] at e
   rw[this] at hl;cases hl
  .have h1:(eO (.plain "send on closed channel"):iZ Unit).run P { lw with drawn:=lw.drawn+n }=BR r2 eP:=by
    have e:=congrArg Prod.fst (h.lone #[]);rwa [Sem.runT_eq] at e
   rw[h1] at hl;cases r2 with
   |ok u=>cases hl
   |error hh0=>
    cases hh0 with
    |panic v=>
     simp only[BR,put] at hl;cases hl;refine⟨_,_,rfl,.inr ⟨w',n+n2,⟨hg.frame.raise _,hg.callers,hg.status⟩,hgd,?_,⟨h.tape,by rw[h.drawn];simp only[];omega,h.grows,h.ok,sN,h.uN⟩,sN,fun gs rest rD ht I d ha=>?_⟩⟩
     .exact hgr
     obtain⟨ha,ha2⟩:=xU ha
     have h2:(eO (.plain "send on closed channel"):iZ Unit).run P (dR w I (d+n))=.halt (.panic v) (dR w' I (d+n+n2)):=by
      have e:=congrArg Prod.fst (h.many I (d+n) ha2 #[]);rwa [Sem.runT_eq] at e
     unfold nu
     extract_lets put' Az Kf ready' pick'
     have hr:ready'=ready:=by simp only[ready,ready',e0,e1 gs rD]
     refine(if_neg (M7 I d _ fun c=>?_)).trans ?_
     .simp only[illMade,Az];split
      .rfl
      .rename_i r _;rcases(tW V I d).at_ r with h|⟨h1,o,h2,h3⟩
       .rw[h]
       rw[h1,h2];cases o<;>first|rfl|cases h3
      rfl
     rw[hr,if_neg hre]
     have hp':pick'.run P (dR w I d)=.ok (k,c,ws.getD 0 .closed) (dR w I (d+n)):=by
      have:pick'=pick:=by simp only[pick,pick',hr]
      rw[this];exact hpx (dR w I d) fun i hi=>(ha i hi).symm
     rw[hp',hw1];simp only[hcc,pw,hh2];simp only[h2,oa];rfl
    |_=>cases hl
 .have hw1:ws.getD 0 .closed=.buffer:=by rw[Lx,hw];rfl
  rw[hw1] at hl;cases hsend:c.send with
  |some v=>
   simp only[hsend,put] at hl;cases hl;refine⟨_,_,rfl,.inr ⟨{ w with heap:=w.heap.setIfInBounds r _ },n,hgf ..,hgd,rfl,hb _ _ rfl rfl sN (zk (w:={ lw with drawn:=lw.drawn+n }) dp rfl) (zT (lw:={ lw with drawn:=lw.drawn+n }) ⟨V.size,V.os,V.out,V.at_,V.old,V.kept⟩ _ _ rfl),?_,fun gs rest rD ht I d ha=>?_⟩⟩
   .intro op hop;simp only[fp,bQ,g_,or_false] at hop;rcases hop with rfl|rfl<;>exact⟨rfl,r,aL,0,eY hh,by simp[me]⟩
   unfold nu
   extract_lets put' Az Kf ready' pick'
   have hr:ready'=ready:=by simp only[ready,ready',e0,e1 gs rD]
   refine(if_neg (M7 I d _ fun c=>?_)).trans ?_
   .simp only[illMade,Az];split
    .rfl
    .rename_i r _;rcases(tW V I d).at_ r with h|⟨h1,o,h2,h3⟩
     .rw[h]
     rw[h1,h2];cases o<;>first|rfl|cases h3
    rfl
   rw[hr,if_neg hre]
   have hp':pick'.run P (dR w I d)=.ok (k,c,ws.getD 0 .closed) (dR w I (d+n)):=by
    have:pick'=pick:=by simp only[pick,pick',hr]
    rw[this];exact hpx (dR w I d) fun i hi=>(ha i hi).symm
   rw[hp',hw1];simp only[hcc,pw,hh2];simp only[hsend];rfl
  |none=>
   simp only[mW Za] at hl;simp only[hsend,put] at hl;cases hl;refine⟨_,_,rfl,.inr ⟨{ w with heap:=w.heap.setIfInBounds r _ },n,hgf ..,hgd,rfl,hb _ _ rfl rfl sN (zk (w:={ lw with drawn:=lw.drawn+n }) dp rfl) (zT (lw:={ lw with drawn:=lw.drawn+n }) ⟨V.size,V.os,V.out,V.at_,V.old,V.kept⟩ _ _ rfl),?_,fun gs rest rD ht I d ha=>?_⟩⟩
   .intro op hop;simp only[fp,bQ,g_,or_false] at hop;rcases hop with rfl|rfl<;>exact⟨rfl,r,aen,cap,eY hh,by simp[me]⟩
   unfold nu
   extract_lets put' Az Kf ready' pick'
   have hr:ready'=ready:=by simp only[ready,ready',e0,e1 gs rD]
   refine(if_neg (M7 I d _ fun c=>?_)).trans ?_
   .simp only[illMade,Az];split
    .rfl
    .rename_i r _;rcases(tW V I d).at_ r with h|⟨h1,o,h2,h3⟩
     .rw[h]
     rw[h1,h2];cases o<;>first|rfl|cases h3
    rfl
   rw[hr,if_neg hre]
   have hp':pick'.run P (dR w I d)=.ok (k,c,ws.getD 0 .closed) (dR w I (d+n)):=by
    have:pick'=pick:=by simp only[pick,pick',hr]
    rw[this];exact hpx (dR w I d) fun i hi=>(ha i hi).symm
   rw[hp',hw1];simp only[hcc,pw,hh2];simp only[hsend,mW rD];rfl
 have hw1:ws.getD 0 .closed=.closed:=by rw[Lx,hw];rfl
 rw[hw1] at hl;dsimp only at hl;simp only[put] at hl;cases hl;refine⟨_,_,rfl,.inr ⟨w,n,hgf ..,hgd,rfl,hb _ _ rfl rfl rfl dp ⟨V.size,V.os,V.out,V.at_,V.old,V.kept⟩,?_,fun gs rest rD ht I d ha=>?_⟩⟩
 .intro op hop;simp only[fp,bQ,g_,or_false] at hop;subst hop;exact⟨rfl,r,0,0,eY hh,by simp[me]⟩
 unfold nu
 extract_lets put' Az Kf ready' pick'
 have hr:ready'=ready:=by simp only[ready,ready',e0,e1 gs rD]
 refine(if_neg (M7 I d _ fun c=>?_)).trans ?_
 .simp only[illMade,Az];split
  .rfl
  .rename_i r _;rcases(tW V I d).at_ r with h|⟨h1,o,h2,h3⟩
   .rw[h]
   rw[h1,h2];cases o<;>first|rfl|cases h3
  rfl
 rw[hr,if_neg hre]
 have hp':pick'.run P (dR w I d)=.ok (k,c,ws.getD 0 .closed) (dR w I (d+n)):=by
  have:pick'=pick:=by simp only[pick,pick',hr]
  rw[this];exact hpx (dR w I d) fun i hi=>(ha i hi).symm
 rw[hp',hw1];simp only[hcc,pw,hh2];rfl
end
def yJ(B:Nat)(aM:Array MemOp):Prop:=∀op∈aM,op.g=0/\op.act.low B/\op.act≠.mark .disable/\op.act≠.mark .enable
def yJ.app{B:Nat}{a b:Array MemOp}(ha:yJ B a)(hb:yJ B b):yJ B (a++b):=fun op h=>(IJ.1 h).elim (ha op) (hb op)
def uU{B:Nat}{es:Array gO}(h:∀e∈es,CH B e)(fn:en)(pos:String):yJ B (iQ 0 fn pos es):=fun op hop=>by
 obtain⟨e,he,rfl⟩:=CS hop;obtain⟨loc,wr,sy⟩:=e;refine⟨rfl,?_⟩;rcases h _ he with⟨a,rfl,ha⟩|⟨r,rfl,hr⟩|rfl|rfl|⟨f,rfl⟩
 .exact⟨ha,by simp[gq],by simp[gq]⟩
 .cases wr<;>cases sy<;>exact⟨hr,by simp[gq],by simp[gq]⟩
 .exact⟨trivial,by simp[gq],by simp[gq]⟩
 .exact⟨trivial,by simp[gq],by simp[gq]⟩
 exact⟨trivial,by simp[gq],by simp[gq]⟩
def O_{B B':Nat}(hB:B<=B'){aM:Array MemOp}(h:∀op∈aM,XM B op):yJ B' aM:=fun op hop=>by
 obtain⟨hg,r,n,m,hr,ho⟩:=h op hop;refine⟨hg,?_⟩;rcases ho with e|e|e|e|e<;>rw[e]<;>exact⟨bA hr hB,sN,sN⟩
def AY{B:Nat}{aM:Array MemOp}(h:yJ B aM)(t:Trace)(g:Nat):Deaf (t++aM) g=Deaf t g:=by
 obtain⟨l⟩:=aM;rw[Deaf_append]
 have:∀(l:List MemOp),(∀op∈l,op.act≠.mark .disable/\op.act≠.mark .enable)->∀d,l.foldl (deafStep g) d=d:=by
  intro l
  induction l with
  |nil=>intro _ d;rfl
  |cons y l ih=>
   intro hl d;rw[List.foldl_cons]
   have:deafStep g d y=d:=by
    have hy:=hl y (dJ ..);unfold deafStep;split
    .rename_i e;exact absurd e hy.1
    .rename_i e;exact absurd e hy.2
    rfl
   rw[this];exact ih (fun op hop=>hl op (bW _ hop)) d
 exact this l (fun op hop=>⟨(h op (by simpa using hop)).2.2.1,(h op (by simpa using hop)).2.2.2⟩) _
section
variable{P:aK}
theorem runT_crowd_comm{gs:Array aC}{w w':ak}{sl:Option (Nat × Nat)}{i:Nat}{g g':aC}{cs:Array nA}{b:Bool}{sh:CommShape}{es:Array gO}(hi:gs[i]?=some g)(h:fE P (i==0) g w=.comm g' cs b sh w' es) :
  runT P (rZ gs w sl) i=((nu P { timers:=#[],alone:=none,slice:=sl } (gs.setIfInBounds i { (default:aC) with status:=.finished }) i g' cs b sh w').1,
   iQ i g.frame.fn g.frame.place es++(nu P { timers:=#[],alone:=none,slice:=sl } (gs.setIfInBounds i { (default:aC) with status:=.finished }) i g' cs b sh w').2):=by
 obtain⟨hlt,rfl⟩:=ag.1 hi;have hsw:=swapAt_of_lt hlt { (default:aC) with status:=.finished };have vS:gs.set i { (default:aC) with status:=.finished }=gs.setIfInBounds i { (default:aC) with status:=.finished }:=by simp[Array.setIfInBounds,hlt]
 show runT P { world:=w,gs:=gs,rest:={ timers:=#[],alone:=none,slice:=sl } } i=_;unfold runT;simp only[hsw,h,GStep.es,vS]
def Idle(gs:Array aC):Prop:=∀(i:Nat) (x:aC),0<i->gs[i]?=some x->x.status=.running\/x.status=.finished
theorem Qn{w:ak}{o:aC}(h:o.status=.running\/o.status=.finished):o.again w=o:=by
 unfold Goroutine.again;rcases h with h|h<;>rw[h]
theorem Ox{gs:Array aC}(h:Idle gs)(g g':aC)(w':ak):(gs.map (woken P g g' w')).setIfInBounds 0 g'=gs.setIfInBounds 0 g':=by
 apply Array.ext_getElem?;intro j
 by_cases hj:0=j
 .subst hj;simp only[bD,Array.size_map,if_true]
 .simp only[aB hj,kF];cases hx:gs[j]? with
  |none=>rfl
  |some x=>
   simp only[dK];unfold woken;split
   .rw[Qn (h j x oN hx)]
   rfl
def s5(P:aK)(g:aC)(W:ak)(g':aC)(W':ak):Prop:=
 g.status=.running/\g.dying=none/\(∃aM,stepT P (yh g W)=(.next (yh g' W'),aM))/\g'.status=.running/\g'.dying=none
theorem o_{a b:aC}{w w':ak}(h:yh a w=yh b w'):a=b/\w=w':=by
 unfold yh at h;injection h with h1 h2 h3
 exact⟨by simpa using h2,h1⟩
theorem LX(gs:Array aC)(x y:aC):(gs.setIfInBounds 0 x).setIfInBounds 0 y=gs.setIfInBounds 0 y:=by
 apply Array.ext_getElem?;intro j
 by_cases hj:0=j
 .subst hj;simp[bD]
 simp[aB hj]
theorem Ds[vP](T:Quiet P){lw w:ak}{g g':aC}{eP:ak}(hg:Bz g)(dp:dL lw)(V:jG lw w)(h:s5 P g lw g' eP) :
  Bz g'/\∃w' k aM,Base lw eP w' k #[]/\yJ eP.heap.size aM/\
   ∀I d gs sl,Agree k lw.tape lw.drawn I d->gs[0]?=some g->Idle gs->runT P (rZ gs (dR w I d) sl) 0=(.next (rZ (gs.setIfInBounds 0 g') (dR w' I (d+k)) sl),aM):=by
 obtain⟨hr,hd,⟨aM,hs⟩,hr',Oo⟩:=h;have BZ:=I1 T hg hd dp V;rw[stepT_solo hr,n_] at hs;have PW:(#[g]:Array aC)[0]?=some g:=rfl;cases rD:fE P true g lw with
 |go g1 lg es=>
  rw[rD] at BZ;have e:=Ep (P:=P) (gs:=#[g]) (w:=lw) (sl:=none) (i:=0) PW rD;rw[e] at hs;injection hs with hs1 hs2
  injection hs1 with hs3
  have:(#[g].map (woken P g g1 lg)).setIfInBounds 0 g1 = #[g1]:=sN;rw[this,<-n_] at hs3;obtain⟨rfl,rfl⟩:=o_ hs3;rcases BZ with hdy|⟨ED,_,w',k,hb,hm⟩
  .obtain⟨_,dd,he,_⟩:=hdy;rw[Oo] at he;cases he
  refine⟨ED,w',k,_,⟨hb.tape,hb.drawn,hb.grows,hb.ok,sN,hb.uN⟩,uU hb.evs g.frame.fn g.frame.place,fun I d gs sl ha h0 hi=>?_⟩;rw[Ep (P:=P) (sl:=sl) (i:=0) h0 (hm I d ha),Ox hi]
 |comm g1 cs b sh lg es=>
  rw[rD] at BZ;obtain⟨ED,⟨hgd,ab_⟩,w1,k1,hb,hm⟩:=BZ;have e:=runT_crowd_comm (P:=P) (gs:=#[g]) (w:=lw) (sl:=none) (i:=0) PW rD;rw[e] at hs;have ab7:(#[g].setIfInBounds 0 { (default:aC) with status:=.finished }) = #[{ (default:aC) with status:=.finished }]:=sN;rw[ab7] at hs;generalize hc:nu P { timers:=#[],alone:=none,slice:=none } #[{ (default:aC) with status:=.finished }] 0 g1 cs b sh lg=cc at hs;obtain⟨st,more⟩:=cc;injection hs with hs1 hs2
  dsimp only at hs1;subst hs1
  have key:∀gs:Array aC,Idle gs->0<gs.size->mD (gs.setIfInBounds 0 { (default:aC) with status:=.finished }):=by
   intro gs hi h0 x hx;obtain⟨j,hj⟩:=Array.mem_iff_getElem?.1 hx
   by_cases e0:0=j
   .subst e0;simp only[bD,if_true,h0] at hj;cases hj;simp
   rw[aB e0] at hj;rcases hi j x oN hj with h|h<;>rw[h]<;>simp
  have Za:({ (default:aC) with status:=.finished }:aC).status≠.blocked:=sN;obtain⟨g2,lw2,e2,F3⟩:=NK T Za (rest0:={ timers:=#[],alone:=none,slice:=none }) rfl hb.ok hb.uN ED hgd ab_ hc;have e3:yh g' eP=yh g2 lw2:=e2;obtain⟨rfl,rfl⟩:=o_ e3;rcases F3 with hblk|⟨w2,k2,hcr⟩
  .rw[hr'] at hblk;cases hblk
  refine⟨hcr.gok,w2,k1+k2,iQ 0 g.frame.fn g.frame.place es++more,⟨hcr.base.tape.trans hb.tape,by rw[hcr.base.drawn,hb.drawn];omega,aG hb.grows hcr.base.grows,hcr.base.ok,sN,hcr.base.uN⟩,
   (uU (fun e he=>(hb.evs e he).mono hcr.base.grows) _ _).app (O_ hcr.base.grows hcr.lists),fun I d gs sl ha h0 hi=>?_⟩
  obtain⟨ha1,ha2⟩:=xU ha;have hlt:0<gs.size:=(ag.1 h0).1;have h2:=hcr.many (gs.setIfInBounds 0 { (default:aC) with status:=.finished }) { timers:=#[],alone:=none,slice:=sl } (key gs hi hlt) rfl I (d+k1) (by rw[hb.tape,hb.drawn];exact ha2);rw[runT_crowd_comm (P:=P) (sl:=sl) (i:=0) h0 (hm I d ha1),h2,LX,oa];rfl
 |ended o lg es=>
  have e:=runT_many_ended (P:=P) (gs:=#[g]) (w:=lw) (sl:=none) (i:=0) PW rD;rw[e] at hs;injection hs with hs1 hs2
  cases hs1
 |spawn g1 c lg es=>
  have e:=runT_crowd_spawn (P:=P) (gs:=#[g]) (w:=lw) (sl:=none) (i:=0) PW rD;rw[e] at hs;injection hs with hs1 hs2
  injection hs1 with hs3
  have:=congrArg (fun m:Machine=>m.gs.size) hs3;simp[rZ,yh] at this
 |_=>rw[rD] at BZ;exact BZ.elim
end
def Ext(W:ak)(I:Nat->dV->Nat):Prop:=∀i,i<W.drawn->I i=W.tape i
inductive Bar(P:aK)(Stop:aC->ak->Prop):aC->ak->Prop
 |stop {g:aC} {W:ak}:Stop g W->Bar P Stop g W
 |step {g:aC} {W:ak}:(∀I,Ext W I->∃g' W',s5 P g (dR W I W.drawn) g' W')->
   (∀I,Ext W I->∀g' W',s5 P g (dR W I W.drawn) g' W'->Bar P Stop g' W')->Bar P Stop g W
section
variable{P:aK}
abbrev QW:vP:=⟨fun _=>.none⟩
theorem IV(W:ak):@jG QW W W:=@jG.mk QW _ _ rfl rfl rfl (fun _=>.inl rfl) (fun _ _ h=>by cases h) (fun _ _ h=>by cases h)
theorem sw(T:Quiet P){g g':aC}{lw eP:ak}(hg:Bz g)(dp:dL lw)(h:s5 P g lw g' eP) :
  Bz g'/\dL eP/\eP.tape=lw.tape/\lw.drawn<=eP.drawn/\lw.heap.size<=eP.heap.size/\
   ∀I d,Agree (eP.drawn-lw.drawn) lw.tape lw.drawn I d->s5 P g (dR lw I d) g' (dR eP I (d+(eP.drawn-lw.drawn))):=by
 letI:=QW
 obtain⟨Hj,w',k,aM,hb,H4,hm⟩:=Ds T hg dp (IV lw) h;obtain⟨hr,hd,⟨ao8,hs⟩,hr',Oo⟩:=h
 have aaz:Idle #[g]:=by
  intro i x h1 h2;have:i<1:=by simpa using (ag.1 h2).1
  omega
 have e0:=hm lw.tape lw.drawn #[g] none (fun _ _=>rfl) rfl aaz;have e1:(#[g].setIfInBounds 0 g') = #[g']:=sN;have hk:eP.drawn-lw.drawn=k:=by rw[hb.drawn];omega
 have e2:eP=dR w' lw.tape (lw.drawn+k):=by
  rw[stepT_solo hr,n_] at hs;have e3:dR lw lw.tape lw.drawn=lw:=rfl;rw[e3,hs] at e0;injection e0 with e4 e5
  injection e4 with e6
  rw[e1,<-n_] at e6;exact(o_ e6).2
 refine⟨Hj,hb.ok,hb.tape,by rw[hb.drawn];omega,hb.grows,fun I d ha=>⟨hr,hd,⟨aM,?_⟩,hr',Oo⟩⟩;rw[hk] at ha ⊢;rw[stepT_solo hr,n_,hm I d #[g] none ha rfl aaz,e1,<-n_,e2];rfl
theorem Fg:∀(n:Nat) {g g':aC} {W W':ak},g.dyingOn P->g'.dying=none->runN P n (yh g W)≠.next (yh g' W')
 |0,g,g',W,W',h,hd=>by
  intro e;simp only[runN] at e;injection e with e
  obtain⟨rfl,_⟩:=o_ e;obtain⟨_,d,Oo,_⟩:=h;rw[hd] at Oo;cases Oo
 |n+1,g,g',W,W',h,hd=>by
  rcases step_dyingOn (w:=W) h with⟨g1,w1,hs,h'⟩|⟨o,w1,hs,_⟩
  .have hs':oV P (yh g W)=.next (yh g1 w1):=hs
   simp only[runN,hs'];exact Fg n h' hd
  have hs':oV P (yh g W)=.ended o w1:=hs;simp only[runN,hs'];intro e;cases e
theorem R7{g:aC}{W:ak}(h:g.status=.finished\/g.status=.blocked):∃o w',oV P (yh g W)=.ended o w':=by
 obtain⟨fr,cs,st,dy,off⟩:=g;simp only at h;rcases h with rfl|rfl
 .obtain⟨o',w',he,ho⟩:=endWith_ended W 2 (bytes "fatal error: no goroutines (main called runtime.Goexit) - deadlock!\n") (.fatal "no goroutines (main called runtime.Goexit) - deadlock!");refine⟨o',w',?_⟩;simp[oV,stepT,move,ask,askOn,yh,runnable_eq,due,ahead,Goroutine.canRun,List.range_succ,pure];rw[he]
 obtain⟨o',w',he,ho⟩:=endWith_ended W 2 (bytes "fatal error: all goroutines are asleep - deadlock!\n") (.fatal "all goroutines are asleep - deadlock!");refine⟨o',w',?_⟩;simp[oV,stepT,move,ask,askOn,yh,runnable_eq,due,ahead,Goroutine.canRun,List.range_succ,pure];rw[he]
theorem I8{n:Nat}{g g':aC}{W W':ak}(h:g.status=.finished\/g.status=.blocked)(hr:g'.status=.running):runN P n (yh g W)≠.next (yh g' W'):=by
 cases n with
 |zero=>
  intro e;simp only[runN] at e;injection e with e
  obtain⟨rfl,_⟩:=o_ e;rw[hr] at h;rcases h with h|h<;>cases h
 |succ n=>
  obtain⟨o,w',e⟩:=R7 (P:=P) (W:=W) h;simp only[runN,e];intro e;cases e
theorem Kv(T:Quiet P){n:Nat}{g g':aC}{W W':ak}(hg:Bz g)(dp:dL W)(hr:g.status=.running)(hd:g.dying=none)(hr':g'.status=.running)(Oo:g'.dying=none)
  (h:runN P (n+1) (yh g W)=.next (yh g' W')):∃g1 W1,s5 P g W g1 W1:=by
 letI:=QW
 have BZ:=I1 T hg hd dp (IV W);have PW:(#[g]:Array aC)[0]?=some g:=rfl;have hst:stepT P (yh g W)=runT P (rZ #[g] W none) 0:=by rw[stepT_solo hr,n_]
 simp only[runN,oV,hst] at h;cases rD:fE P true g W with
 |go g1 W1 es=>
  rw[rD] at BZ;have e:=Ep (P:=P) (gs:=#[g]) (w:=W) (sl:=none) (i:=0) PW rD;have e1:(#[g].map (woken P g g1 W1)).setIfInBounds 0 g1 = #[g1]:=sN;have e:runT P (rZ #[g] W none) 0=(.next (yh g1 W1),iQ 0 g.frame.fn g.frame.place es):=e.trans (by rw[e1,<-n_]);rw[e] at h;dsimp only at h;rcases BZ with hdy|⟨ED,hgd,_⟩
  .exact absurd h (Fg n hdy Oo)
  rcases ED.status with hs|hs
  .exact⟨g1,W1,hr,hd,⟨_,hst.trans e⟩,hs,hgd⟩
  exact absurd h (I8 (.inl hs) hr')
 |comm g1 cs b sh W1 es=>
  rw[rD] at BZ;obtain⟨ED,⟨hgd,ab_⟩,w1,k1,hb,hm⟩:=BZ;have e:=runT_crowd_comm (P:=P) (gs:=#[g]) (w:=W) (sl:=none) (i:=0) PW rD;have ab7:(#[g].setIfInBounds 0 { (default:aC) with status:=.finished }) = #[{ (default:aC) with status:=.finished }]:=sN;rw[ab7] at e;generalize hc:nu P { timers:=#[],alone:=none,slice:=none } #[{ (default:aC) with status:=.finished }] 0 g1 cs b sh W1=cc at e;obtain⟨st,more⟩:=cc;rw[e] at h;dsimp only at h e;cases st with
  |ended o w2=>cases h
  |next m1=>
   dsimp only at h;obtain⟨g2,W2,e2,F3⟩:=NK T (d0:={ (default:aC) with status:=.finished }) sN (rest0:={ timers:=#[],alone:=none,slice:=none }) rfl hb.ok hb.uN ED hgd ab_ hc;have e3:m1=yh g2 W2:=e2;subst e3;rcases F3 with hblk|⟨w2,k2,hcr⟩
   .exact absurd h (I8 (.inr hblk) hr')
   exact⟨g2,W2,hr,hd,⟨_,hst.trans e⟩,hcr.run,hcr.dy⟩
 |spawn g1 c W1 es=>
  have e:=runT_crowd_spawn (P:=P) (gs:=#[g]) (w:=W) (sl:=none) (i:=0) PW rD;rw[e] at h;dsimp only at h
  have h2:runNT P n (rZ ((#[g].setIfInBounds 0 g1).push c) W1 none) #[]=(.next (yh g' W'),(runNT P n (rZ ((#[g].setIfInBounds 0 g1).push c) W1 none) #[]).2):=by
   have:=runNT_fst P n (rZ ((#[g].setIfInBounds 0 g1).push c) W1 none) #[];rw[h] at this;exact Prod.ext this rfl
  have:=runNT_size P n _ _ _ _ h2;simp[rZ,yh] at this
 |ended o W1 es=>
  have e:=runT_many_ended (P:=P) (gs:=#[g]) (w:=W) (sl:=none) (i:=0) PW rD;rw[e] at h;cases h
 |_=>rw[rD] at BZ;exact BZ.elim
theorem least{p:Nat->Prop}:∀n,p n->∃m,p m/\∀j,j<m->¬p j:=by
 intro n
 induction n using Nat.strongRecOn with
 |ind n ih=>
  intro hn
  by_cases h:∃m,m<n/\p m
  .obtain⟨m,h1,h2⟩:=h;exact ih m h1 h2
  exact⟨n,hn,fun j hj hp=>h ⟨j,hj,hp⟩⟩
structure Bad(P:aK)(Stop:aC->ak->Prop)(x:aC × ak):Prop where
 no:¬Bar P Stop x.1 x.2
 gok:Bz x.1
 ok:dL x.2
 run:x.1.status=.running
 dy:x.1.dying=none
theorem DY(T:Quiet P){Stop:aC->ak->Prop}(hS:∀g W I d,Stop g (dR W I d)->Stop g W)(hSr:∀g W,Stop g W->g.status=.running/\g.dying=none)
  {g:aC} {W:ak} (hg:Bz g) (dp:dL W) (hr:g.status=.running) (hd:g.dying=none)
  (H:∀I,Ext W I->∃n g' W',runN P n (yh g (dR W I W.drawn))=.next (yh g' W')/\Stop g' W'):Bar P Stop g W:=by
 classical
 refine fH fun hno=>?_;let St:={ x:aC × ak // Bad P Stop x }
 let R:St->St->Prop:=fun x y=>∃I,Ext x.1.2 I/\s5 P x.1.1 (dR x.1.2 I x.1.2.drawn) y.1.1 y.1.2;let He:St->Prop:=fun x=>∃I,Ext x.1.2 I/\∀g' W',¬s5 P x.1.1 (dR x.1.2 I x.1.2.drawn) g' W'
 have next:∀x:St,¬He x->∃y,R x y:=by
  rintro⟨⟨g,W⟩,hb⟩ hnd;refine fH fun hny=>hb.no (.step (fun I hτ=>?_) fun I hτ g' W' hl=>?_)
  .exact fH fun h=>hnd ⟨I,hτ,fun g' W' hl=>h ⟨g',W',hl⟩⟩
  refine fH fun KI=>hny ?_;obtain⟨h1,h2,_⟩:=sw T hb.gok (lw:=dR W I W.drawn) hb.ok hl;exact⟨⟨(g',W'),KI,h1,h2,hl.2.2.2.1,hl.2.2.2.2⟩,I,hτ,hl⟩
 let f:St->St:=fun x=>if h:He x then x else Classical.choose (next x h)
 have hf:∀x,¬He x->R x (f x):=fun x h=>by
  simp only[f,dif_neg h];exact Classical.choose_spec (next x h)
 let seq:Nat->St:=fun n=>Nat.rec ⟨(g,W),hno,hg,dp,hr,hd⟩ (fun _ x=>f x) n
 have Rk:∀x y:St,R x y->x.1.2.drawn<=y.1.2.drawn/\(∀p,p<x.1.2.drawn->y.1.2.tape p=x.1.2.tape p)/\
   ∀T',(∀p,p<y.1.2.drawn->T' p=y.1.2.tape p)->s5 P x.1.1 (dR x.1.2 T' x.1.2.drawn) y.1.1 (dR y.1.2 T' y.1.2.drawn):=by
  rintro x y ⟨I,hτ,hl⟩;obtain⟨_,_,h3,h4,_,h6⟩:=sw T x.2.gok (lw:=dR x.1.2 I x.1.2.drawn) x.2.ok hl;simp only[Al,qP] at h3 h4 h6;refine⟨h4,fun p hp=>by rw[h3];exact hτ p hp,fun T' hT'=>?_⟩;have:=h6 T' x.1.2.drawn fun i hi=>by rw[hT' _ oN,h3]
  rwa [Nat.add_sub_cancel' h4] at this
 have walk:∀(T':Nat->dV->Nat) (n i:Nat),(∀j,j<n->R (seq (i+j)) (seq (i+j+1))/\∀p,p<(seq (i+j+1)).1.2.drawn->T' p=(seq (i+j+1)).1.2.tape p)->
   runN P n (yh (seq i).1.1 (dR (seq i).1.2 T' (seq i).1.2.drawn))=.next (yh (seq (i+n)).1.1 (dR (seq (i+n)).1.2 T' (seq (i+n)).1.2.drawn)):=by
  intro T' n
  induction n with
  |zero=>intro i _;rfl
  |succ n ih=>
   intro i h;obtain⟨h1,h2⟩:=h 0 oN;obtain⟨_,_,hT⟩:=Rk _ _ h1;obtain⟨_,_,⟨aM,hs⟩,_⟩:=hT T' h2
   have hs':oV P (yh (seq i).1.1 (dR (seq i).1.2 T' (seq i).1.2.drawn))=.next (yh (seq (i+1)).1.1 (dR (seq (i+1)).1.2 T' (seq (i+1)).1.2.drawn)):=by
    rw[oV];exact congrArg Prod.fst hs
   simp only[runN,hs']
   have:=ih (i+1) fun j hj=>by
    have:=h (j+1) oN;rwa [show i+(j+1)=i+1+j by omega] at this
   rw[this,show i+1+n=i+(n+1) by omega]
 have mono:∀i n,(∀j,j<n->R (seq (i+j)) (seq (i+j+1)))->(seq i).1.2.drawn<=(seq (i+n)).1.2.drawn/\∀p,p<(seq i).1.2.drawn->(seq (i+n)).1.2.tape p=(seq i).1.2.tape p:=by
  intro i n
  induction n with
  |zero=>intro _;exact⟨aJ _,fun _ _=>rfl⟩
  |succ n ih=>
   intro h;obtain⟨h1,h2⟩:=ih fun j hj=>h j oN;obtain⟨h3,h4,_⟩:=Rk _ _ (h n oN);exact⟨aG h1 h3,fun p hp=>(h4 p (bA hp h1)).trans (h2 p hp)⟩
 have hseq:∀j,¬He (seq j)->R (seq j) (seq (j+1)):=fun j h=>hf _ h;have Vb:∀n T',¬Stop (seq n).1.1 (dR (seq n).1.2 T' (seq n).1.2.drawn):=fun n T' h=>(seq n).2.no (.stop (hS _ _ _ _ h));have agm:∀T',(∀p,p<W.drawn->T' p=W.tape p)->∃n g' W',runN P n (yh (seq 0).1.1 (dR (seq 0).1.2 T' (seq 0).1.2.drawn))=.next (yh g' W')/\Stop g' W':=fun T' h=>H T' h
 by_cases Rj:∃n,He (seq n)
 .obtain⟨n0,Za⟩:=Rj;obtain⟨N,hN,hlt⟩:=least (p:=fun n=>He (seq n)) n0 Za;obtain⟨I,hτ,hnl⟩:=hN;have hR:∀j,j<N->R (seq j) (seq (j+1)):=fun j hj=>hseq j (hlt j hj)
  have agree:∀j,j<=N->∀p,p<(seq j).1.2.drawn->I p=(seq j).1.2.tape p:=by
   intro j hj p hp;have:=mono j (N-j) fun i hi=>hR (j+i) oN;rw[Nat.add_sub_cancel' hj] at this;rw[hτ p (bA hp this.1),this.2 p hp]
  have pre:∀n,n<=N->runN P n (yh (seq 0).1.1 (dR (seq 0).1.2 I (seq 0).1.2.drawn))=.next (yh (seq n).1.1 (dR (seq n).1.2 I (seq n).1.2.drawn)):=by
   intro n hn
   have:=walk I n 0 fun j hj=>by
    rw[dz];exact⟨hR j oN,agree (j+1) oN⟩
   rwa [dz] at this
  obtain⟨n,g',W',hrun,Du⟩:=agm I (agree 0 oN);rcases CQ N n with Ed|hle
  .obtain⟨m,rfl⟩:∃m,n=N+(m+1):=⟨n-N-1,oN⟩
   have zh:∀(a b:Nat) (x y:Machine),runN P a x=.next y->runN P (a+b) x=runN P b y:=by
    intro a
    induction a with
    |zero=>intro b x y h;simp only[runN] at h;injection h with h;rw[h,dz]
    |succ a ih=>
     intro b x y h;rw[show a+1+b=(a+b)+1 by omega];simp only[runN] at h ⊢;cases hs:oV P x with
     |next x'=>rw[hs] at h;simp only at h ⊢;exact ih b x' y h
     |ended o w=>rw[hs] at h;cases h
   rw[zh N (m+1) _ _ (pre N (aJ _))] at hrun;obtain⟨hr',Oo⟩:=hSr _ _ Du;obtain⟨g1,W1,hl⟩:=Kv T (seq N).2.gok (W:=dR (seq N).1.2 I (seq N).1.2.drawn) (seq N).2.ok (seq N).2.run (seq N).2.dy hr' Oo hrun;exact hnl _ _ hl
  rw[pre n hle] at hrun;injection hrun with hrun
  obtain⟨h1,h2⟩:=o_ hrun;rw[<-h1,<-h2] at Du;exact Vb n I Du
 have hnd:∀n,¬He (seq n):=fun n h=>Rj ⟨n,h⟩;have hR:∀j,R (seq j) (seq (j+1)):=fun j=>hseq j (hnd j)
 have coh:∀i j p,i<=j->p<(seq i).1.2.drawn->(seq j).1.2.tape p=(seq i).1.2.tape p:=fun i j p VY hp=>by
  have:=(mono i (j-i) fun k _=>hR _).2 p hp;rwa [Nat.add_sub_cancel' VY] at this
 let I:Nat->dV->Nat:=fun p=>if h:∃j,p<(seq j).1.2.drawn then(seq (Classical.choose h)).1.2.tape p else fun _=>0
 have agree:∀j p,p<(seq j).1.2.drawn->I p=(seq j).1.2.tape p:=by
  intro j p hp;have hex:∃j,p<(seq j).1.2.drawn:=⟨j,hp⟩
  have hc:=Classical.choose_spec hex;simp only[I,dif_pos hex];rcases Nat.le_total (Classical.choose hex) j with h|h
  .exact(coh _ _ p h hc).symm
  exact coh _ _ p h hp
 obtain⟨n,g',W',hrun,Du⟩:=agm I (agree 0)
 have:=walk I n 0 fun j hj=>by
  rw[dz];exact⟨hR j,agree (j+1)⟩
 rw[dz] at this;rw[this] at hrun;injection hrun with hrun
 obtain⟨h1,h2⟩:=o_ hrun;rw[<-h1,<-h2] at Du;exact Vb n I Du
end
open Go.ConcN (sumTo upd sumTo_upd upd_ne upd_same)
abbrev Ob:=Past (fun _=>False)
structure Beside(P:aK)(gs:Array aC)(g:aC)(w:ak)(t:Trace)(q:Nat->Nat):Prop where
 zero:gs[0]?=some g
 old:Leavers P t gs q
 past:Ob w.heap.size t
def rP(P:aK)(Q:aC->ak->Prop)(g:aC)(w:ak):Prop:=
 ∀(I:Nat->dV->Nat) (d:Nat) (gs:Array aC) (sl:Option (Nat × Nat)) (t:Trace) (q:Nat->Nat),Beside P gs g w t q->
  ∃(N:Nat) (gs':Array aC) (g':aC) (w':ak) (d':Nat) (sl':Option (Nat × Nat)) (t':Trace) (q':Nat->Nat),
   runNT P N (rZ gs (dR w I d) sl) t=(.next (rZ gs' (dR w' I d') sl'),t')/\Beside P gs' g' w' t' q'/\Q g' w'
section
variable{P:aK}{Q Q':aC->ak->Prop}{g:aC}{w:ak}
theorem runNT_add(P:aK):∀(a b:Nat) (x y:Machine) (t u:Trace),runNT P a x t=(.next y,u)->runNT P (a+b) x t=runNT P b y u
 |0,b,x,y,t,u,h=>by
  simp only[runNT] at h;injection h with h1 h2
  injection h1 with h1
  rw[h1,h2,dz]
 |a+1,b,x,y,t,u,h=>by
  rw[show a+1+b=(a+b)+1 by omega];simp only[runNT] at h ⊢;generalize stepT P x=s at h;obtain⟨r,aM⟩:=s;cases r with
  |next x'=>exact runNT_add P a b x' y _ u h
  |ended o w=>cases h
theorem rP.here(h:Q g w):rP P Q g w:=fun I d gs sl t q hb=>⟨0,gs,g,w,d,sl,t,q,rfl,hb,h⟩
theorem rP.bind(h:rP P Q g w)(k:∀g' w',Q g' w'->rP P Q' g' w'):rP P Q' g w:=fun I d gs sl t q hb=>by
 obtain⟨N,gs1,g1,w1,d1,EY,t1,q1,hr1,hb1,hq1⟩:=h I d gs sl t q hb;obtain⟨M,gs2,g2,w2,d2,sl2,t2,q2,hr2,hb2,Uc⟩:=k g1 w1 hq1 I d1 gs1 EY t1 q1 hb1;exact⟨N+M,gs2,g2,w2,d2,sl2,t2,q2,by rw[runNT_add P N M _ _ _ _ hr1,hr2],hb2,Uc⟩
theorem rP.mono(h:rP P Q g w)(k:∀g' w',Q g' w'->Q' g' w'):rP P Q' g w:=h.bind fun g' w' hq=>.here (k g' w' hq)
theorem Kw{t:Trace}{gs:Array aC}{q:Nat->Nat}(h:Leavers P t gs q):Idle gs:=fun i x hi hx=>(h.old i x hi hx).status
theorem Mr{B B':Nat}{t:Trace}{aM:Array MemOp}(h:Ob B t)(hB:B<=B')(ho:yJ B' aM):Ob B' (t++aM):=
 (h.mono hB).app0 (fun op hop=>(ho op hop).1) (fun _ _ _ _ hf=>hf.elim) (AY ho t 0) fun op hop=>(ho op hop).2.1
theorem slip{gs:Array aC}{g:aC}{w:ak}{t:Trace}{q:Nat->Nat}(hb:Beside P gs g w t q)(hrun:g.status=.running){i:Nat}{x:aC}(kY:0<i)(hi:gs[i]?=some x)(hx:x.status=.running)(I:Nat->dV->Nat)(d:Nat)(sl:Option (Nat × Nat)) :
  ∃gs' aM q',runT P (rZ gs (dR w I d) sl) i=(.next (rZ gs' (dR w I d) sl),aM)/\Beside P gs' g w (t++aM) q'/\gs'.size=gs.size/\sumTo gs.size q'<sumTo gs.size q:=by
 have hq:=hb.old.old i x kY hi;have hi0:(i==0)=false:=sP;have hlt:i<gs.size:=(ag.1 hi).1;cases hqi:q i with
 |zero=>rw[hqi] at hq;rw[hq.1] at hx;cases hx
 |succ k=>
  rw[hqi] at hq;rcases hq with⟨hf,_⟩|⟨_,g',es,hm,abK,hq'⟩
  .rw[hf] at hx;cases hx
  have kh:=Ep (P:=P) (sl:=sl) (i:=i) hi (by rw[hi0];exact abK (dR w I d))
  have ae8:sumTo gs.size (upd q i k)+(k+1)=sumTo gs.size q+k:=by
   have:=sumTo_upd q k id hlt;simpa [hqi] using this
  refine⟨_,_,upd q i k,kh,⟨?_,⟨fun j y hj hy=>?_,fun j hj=>?_⟩,hb.past.mute oN hm⟩,sN,oN⟩
  .have hne:i≠0:=oN;rw[aB hne,kF,hb.zero];simp[woken_run hrun]
  .by_cases Ze:i=j
   .subst Ze;rw[bg (by simpa using hlt)] at hy;obtain rfl:=aT hy;rw[upd_same,Deaf_own];exact hq'
   rw[aB Ze,kF] at hy;obtain⟨z,hz,rfl⟩:=eW.1 hy;have hqj:=hb.old.old j z hj hz;rw[woken_quitsD hqj,upd_ne q k (Ne.symm Ze),Deaf_other t Ze _ (fun op hop=>by obtain⟨e,_,rfl⟩:=CS hop;rfl)];exact hqj
  rw[Deaf_other t (g':=i) (by simp at hj;omega) _ (fun op hop=>by obtain⟨e,_,rfl⟩:=CS hop;rfl)];exact hb.old.above j (by simpa using hj)
theorem Bj{gs:Array aC}{g:aC}{w:ak}{t:Trace}{q:Nat->Nat}(hb:Beside P gs g w t q)(hrun:g.status=.running):∀x∈gs,awake x:=by
 intro x hx;obtain⟨i,hi,rfl⟩:=Array.mem_iff_getElem.1 hx;rcases jv i with rfl|kY
 .have:gs[0]=g:=by simpa [aN hi] using hb.zero
  rw[this];exact awake_of (.inl hrun)
 exact awake_of ((hb.old.old i _ kY (aN hi)).status.elim .inl fun x=>.inr (.inr x))
theorem rP.aed(hrun:g.status=.running)
  (h:∀(I:Nat->dV->Nat) (d:Nat) (gs:Array aC) (sl:Option (Nat × Nat)),gs[0]?=some g->Idle gs->
   ∃g' w' k aM,runT P (rZ gs (dR w I d) sl) 0=(.next (rZ (gs.setIfInBounds 0 g') (dR w' I k) sl),aM)/\yJ w'.heap.size aM/\w.heap.size<=w'.heap.size/\rP P Q g' w'):rP P Q g w:=by
 intro I d gs sl t q hb;generalize hM:sumTo gs.size q=M
 induction M using Nat.strongRecOn generalizing d gs sl t q with
 |ind M ih=>
  obtain⟨i,x,d1,EY,hi,hx,hst⟩:=crowd_pick (P:=P) (w:=dR w I d) (sl:=sl) (Bj hb hrun) ⟨0,g,hb.zero,hrun⟩;have ew:(dR w I d).at d1=dR w I d1:=rfl;rw[ew] at hst;rcases jv i with rfl|kY
  .obtain⟨g',w',k,aM,hr,ho,hs,hk⟩:=h I d1 gs EY hb.zero (Kw hb.old)
   have hb':Beside P (gs.setIfInBounds 0 g') g' w' (t++aM) q:=by
    have hlt:0<gs.size:=(ag.1 hb.zero).1;refine⟨by simp[hlt],⟨fun j y hj hy=>?_,fun j hj=>?_⟩,Mr hb.past hs ho⟩
    .have hne:0≠j:=oN;rw[aB hne] at hy;rw[AY ho];exact hb.old.old j y hj hy
    rw[AY ho];exact hb.old.above j (by simpa using hj)
   obtain⟨N,gs2,g2,w2,d2,sl2,t2,q2,hr2,hb2,Uc⟩:=hk I k (gs.setIfInBounds 0 g') EY (t++aM) q hb';exact⟨N+1,gs2,g2,w2,d2,sl2,t2,q2,by simp only[runNT,hst,hr];exact hr2,hb2,Uc⟩
  obtain⟨gs',aM,q',hr,hb',hsz,hlt⟩:=slip hb hrun kY hi hx I d1 EY;obtain⟨N,gs2,g2,w2,d2,sl2,t2,q2,hr2,hb2,Uc⟩:=ih (sumTo gs'.size q') (by rw[hsz,<-hM];exact hlt) d1 gs' EY (t++aM) q' hb' rfl;exact⟨N+1,gs2,g2,w2,d2,sl2,t2,q2,by simp only[runNT,hst,hr];exact hr2,hb2,Uc⟩
theorem J6[vP](T:Quiet P){Stop:aC->ak->Prop}{g:aC}{W:ak}(h:Bar P Stop g W):Bz g->dL W->∀w,jG W w->
  rP P (fun g' w'=>∃W',Stop g' W'/\jG W' w'/\Bz g'/\dL W'/\W.heap.size<=W'.heap.size) g w:=by
 induction h with
 |stop hs=>exact fun hg dp w V=>.here ⟨_,hs,V,hg,dp,aJ _⟩
 |@step g W live down ih=>
  intro hg dp w V;obtain⟨_,_,hl0⟩:=live W.tape fun _ _=>rfl;refine .aed hl0.1 fun I d gs sl h0 hi=>?_;let I':Nat->dV->Nat:=fun p=>if p<W.drawn then W.tape p else I (d+(p-W.drawn))
  have PH:Ext W I':=fun i hi=>by simp only[I',if_pos hi]
  obtain⟨g',W',hl⟩:=live I' PH;obtain⟨Hj,w',k,aM,hb,ho,hm⟩:=Ds T (lw:=dR W I' W.drawn) hg dp (w:=w) ⟨V.size,V.os,V.out,V.at_,V.old,V.kept⟩ hl
  have ha:Agree k (dR W I' W.drawn).tape (dR W I' W.drawn).drawn I d:=fun i hi=>by
   simp only[Al,qP,I',if_neg (show ¬W.drawn+i<W.drawn by omega),Nat.add_sub_cancel_left]
  have hsz:w'.heap.size=W'.heap.size:=hb.uN.size.symm;have hgr:=hb.grows;simp only[pw] at hgr;refine⟨g',w',d+k,aM,hm I d gs sl ha h0 hi,by rw[hsz];exact ho,by rw[hsz,<-V.size];exact hgr,(ih I' PH g' W' hl Hj hb.ok w' hb.uN).mono ?_⟩;rintro g2 w2 ⟨W2,h1,h2,h3,h4,h5⟩;exact⟨W2,h1,h2,h3,h4,aG hgr h5⟩
end
open Go.ConcN (sumTo upd)
def jz(P:aK)(Q:aC->ak->Prop)(g:aC)(W:ak):Prop:=
 ∀K:vP,Bz g->dL W->∀w,jG W w->rP P (fun g' w'=>∃W',Q g' W'/\jG W' w'/\Bz g'/\dL W'/\W.heap.size<=W'.heap.size) g w
section
variable{P:aK}{Q Q':aC->ak->Prop}{g:aC}{W:ak}
theorem jz.here(h:Q g W):jz P Q g W:=fun K hg dp w V=>.here ⟨W,h,V,hg,dp,aJ _⟩
theorem jz.bind(h:jz P Q g W)(k:∀g' W',W.heap.size<=W'.heap.size->Q g' W'->jz P Q' g' W'):jz P Q' g W:=fun K hg dp w V=>
 (h K hg dp w V).bind fun g' w' ⟨W',hq,V',Hj,tD,hs⟩=>(k g' W' hs hq K Hj tD w' V').mono fun g2 w2 ⟨W2,h1,h2,h3,h4,h5⟩=>⟨W2,h1,h2,h3,h4,aG hs h5⟩
theorem jz.mono(h:jz P Q g W)(k:∀g' W',W.heap.size<=W'.heap.size->Q g' W'->Q' g' W'):jz P Q' g W:=h.bind fun g' W' hs hq=>.here (k g' W' hs hq)
theorem jz.SN(h:jz P Q g W)(I:Nat->dV->Nat)(d:Nat):jz P Q g (dR W I d):=fun K hg dp w V=>h K hg dp w ⟨V.size,V.os,V.out,V.at_,V.old,V.kept⟩
theorem jz.ofT{I:Nat->dV->Nat}{d:Nat}(h:jz P Q g (dR W I d)):jz P Q g W:=fun K hg dp w V=>h K hg dp w ⟨V.size,V.os,V.out,V.at_,V.old,V.kept⟩
theorem Fb(T:Quiet P)(hr:g.status=.running)(hd:g.dying=none)
  (H:∀I,∃n g' W',runN P n (yh g (dR W I 0))=.next (yh g' W')/\Q g' W'/\g'.status=.running/\g'.dying=none) :
  jz P (fun g' W'=>∃I d,Q g' (dR W' I d)) g W:=fun K hg dp w V=>by
 have hb:Bar P (fun g' W'=>(∃I d,Q g' (dR W' I d))/\g'.status=.running/\g'.dying=none) g (dR W W.tape 0):=by
  refine DY T (fun g' W' I d h=>⟨h.1,h.2⟩) (fun g' W' h=>h.2) hg dp hr hd fun I _=>?_;obtain⟨n,g',W',h1,h2,h3,h4⟩:=H I;exact⟨n,g',W',h1,⟨W'.tape,W'.drawn,h2⟩,h3,h4⟩
 refine(J6 T hb hg dp w ⟨V.size,V.os,V.out,V.at_,V.old,V.kept⟩).mono ?_;rintro g' w' ⟨W',⟨hq,_⟩,V',Hj,tD,hs⟩;exact⟨W',hq,V',Hj,tD,hs⟩
theorem De(T:Quiet P){fr:bY}{cs:List bY}{Q:bY->ak->Prop}
  (H:∀I,∃fr' W',Steps P (lone fr cs (dR W I 0)) (lone fr' cs W')/\Q fr' W') :
  jz P (fun g' W'=>∃fr' I d,g'=G fr' cs/\Q fr' (dR W' I d)) (G fr cs) W:=by
 refine(Fb T (Q:=fun g' W'=>∃fr',g'=G fr' cs/\Q fr' W') rfl rfl fun I=>?_).mono fun g' W' _ ⟨I,d,fr',h1,h2⟩=>⟨fr',I,d,h1,h2⟩
 obtain⟨fr',W',⟨n,hn⟩,hq⟩:=H I;exact⟨n,G fr' cs,W',hn,⟨fr',rfl,hq⟩,rfl,rfl⟩
def ko(P:aK)(f:en)(args:Array ai)(W:ak)(R:ai->ak->Prop):Prop:=
 ∀cs,jz P (fun g' W'=>∃fr v I d,g'=G fr cs/\R v W'/\fr.fn=f/\fr.leaving P (dR W' I d) (.returned v)) (G (eL P f args .normal) cs) W
theorem ko.SN{f:en}{args:Array ai}{R:ai->ak->Prop}(h:ko P f args W R)(I:Nat->dV->Nat)(d:Nat):ko P f args (dR W I d) R:=fun cs=>(h cs).SN I d
theorem yX(T:Quiet P){g':aC}{I:Nat->dV->Nat}{d:Nat}(h:s5 P g (dR W I d) g' (dR W I d)):jz P (fun g2 W2=>g2=g'/\∃I d,W2=dR W I d) g W:=fun K hg dp w V=>by
 obtain⟨_,_,_,_,_,hloc⟩:=sw T hg (lw:=dR W I d) dp h;simp only[qP,Nat.sub_self,Nat.add_zero] at hloc;have hs:=fun I'=>hloc I' 0 (fun i hi=>absurd hi oN);refine(Fb T (Q:=fun g2 W2=>g2=g'/\∃I d,W2=dR W I d) h.1 h.2.1 (fun I'=>?_)).mono ?_ K hg dp w V
 .obtain⟨_,_,⟨aM,e⟩,h3,h4⟩:=hs I';refine⟨1,g',dR W I' 0,?_,⟨rfl,I',0,rfl⟩,h3,h4⟩;simp only[runN,oV];have e':stepT P (yh g (dR W I' 0))=(.next (yh g' (dR W I' 0)),aM):=e;rw[e']
 rintro g2 W2 _ ⟨τ1,d1,h1,τ2,d2,h2⟩;have h3:=congrArg (fun x=>dR x W2.tape W2.drawn) h2;exact⟨h1,W2.tape,W2.drawn,h3⟩
theorem tu{fr fr':bY}{cs cs':List bY}{w w':ak}(h:oV P (lone fr cs w)=.next (lone fr' cs' w')):s5 P (G fr cs) w (G fr' cs') w':=by
 refine⟨rfl,rfl,?_,rfl,rfl⟩;have h':(stepT P (yh (G fr cs) w)).1=.next (yh (G fr' cs') w'):=h
 exact⟨_,Prod.ext h' rfl⟩
theorem J5(T:Quiet P){fr c:bY}{cs:List bY}{v:ai}{I:Nat->dV->Nat}{d:Nat}(h:fr.leaving P (dR W I d) (.returned v)) :
  jz P (fun g' W'=>g'=G (c.finish v) cs/\∃I d,W'=dR W I d) (G fr (c::cs)) W:=
 yX T (tu (step_leave_returned h))
theorem Gi[K:vP](T:Quiet P){f:en}{args:Array ai}{R:ai->ak->Prop}(hi:P.inits.idxOf? f=none)(h:ko P f args W R)(hW:dL W){w:ak}(V:jG W w) :
  ∃N last o w' t',runNT P (N+1) (yh (G (eL P f args .normal) []) w) #[]=(.ended o w',t')/\runN P N (yh (G (eL P f args .normal) []) w)=.next last/\
   oV P last=.ended o w'/\Conc.Good P (fun v w'=>∃W',R v W'/\jG W' w'/\dL W'/\W.heap.size<=W'.heap.size) last o w' t':=by
 have hg0:Bz (G (eL P f args .normal) []):=⟨oZ T f args .normal,by simp[G],.inl rfl⟩
 have hb0:Beside P #[G (eL P f args .normal) []] (G (eL P f args .normal) []) w #[] (fun _=>0):=
  ⟨rfl,leavers_one P _,past_nil.mono oN⟩
 obtain⟨N,gs1,g1,w1,d1,EY,t1,q1,hr1,hb1,W1,⟨fr,v,τ1,d2,rfl,hv,hfn,hl⟩,V1,hg1,Ec,hs1⟩:=h [] K hg0 hW w V w.tape w.drawn _ none _ _ hb0
 have last:∀I d,∃w2 es,fE P true (G fr []) (dR w1 I d)=.ended (.done v) (dR w2 I d) es/\jG W1 w2/\∀e∈es,CH w1.heap.size e:=by
  obtain⟨hm,PK,hk,fn,hf,hres⟩:=hl;have hrun:((results fn fr.tmps).runT P (dR W1 τ1 d2) #[]).1=.ok v (dR W1 τ1 d2):=by rw[Sem.runT_eq];exact hres
  rcases xP (A_ (P:=P) fn fr.tmps) (lw:=dR W1 τ1 d2) (w:=w1) Ec ⟨V1.size,V1.os,V1.out,V1.at_,V1.old,V1.kept⟩ with⟨why,eP,hx⟩|⟨eP,w2,k,r,new,hx⟩
  .obtain⟨es',he⟩:=hx #[];rw[he] at hrun;cases hrun
  .have h1:=hx.lone #[];rw[h1] at hrun;cases r with
   |error e=>cases hrun
   |ok v'=>
    simp only[BR] at hrun;injection hrun with hv' hw'
    subst hv'
    have hk0:k=0:=by
     have:=hx.drawn;rw[hw'] at this;simp only[qP] at this;omega
    subst hk0;intro I d;have h2:=hx.many I d (fun i hi=>absurd hi oN) #[];rw[Nat.add_zero,fD] at h2;refine⟨w2,seen P fr.fn new++#[],?_,?_,fun e he=>?_⟩
    .obtain⟨fnn,tmps,todo,defers,mode,kind,ro⟩:=fr;simp only at hm PK hk hf h2 hfn;subst hm PK hk hfn;unfold fE G;simp only;unfold mM;simp only[hf,h2,BR];unfold vw;simp only[hi];rfl
    .have:=hx.uN;rw[hw'] at this;exact⟨this.size,this.os,this.out,this.at_,this.old,this.kept⟩
    have:=hx.evs e (fZ e he);rw[hw'] at this;simp only[pw] at this;rw[<-V1.size];exact this
 have fin:∀M (gs:Array aC) (d:Nat) (sl:Option (Nat × Nat)) (t:Trace) (q:Nat->Nat),sumTo gs.size q=M->Beside P gs (G fr []) w1 t q->
   ∃N last o w' t',runNT P (N+1) (rZ gs (dR w1 w.tape d) sl) t=(.ended o w',t')/\runN P N (rZ gs (dR w1 w.tape d) sl)=.next last/\oV P last=.ended o w'/\
    Conc.Good P (fun v w'=>∃W',R v W'/\jG W' w'/\dL W'/\W.heap.size<=W'.heap.size) last o w' t':=by
  intro M
  induction M using Nat.strongRecOn with
  |ind M ih=>
   intro gs d sl t q hM hb;obtain⟨i,x,d1,EY,hi',hx,hst⟩:=crowd_pick (P:=P) (w:=dR w1 w.tape d) (sl:=sl) (Bj hb rfl) ⟨0,_,hb.zero,rfl⟩;have ew:(dR w1 w.tape d).at d1=dR w1 w.tape d1:=rfl;rw[ew] at hst;rcases jv i with rfl|kY
   .obtain⟨w2,es,hend,hV2,hes⟩:=last w.tape d1;have kh:=runT_many_ended (P:=P) (sl:=EY) (i:=0) hb.zero hend;have H4:=uU hes fr.fn fr.place;have hP:=Mr hb.past (aJ _) H4;refine⟨0,rZ gs (dR w1 w.tape d) sl,.done v,dR w2 w.tape d1,_,by simp only[runNT,hst,kh];rfl,rfl,by simp only[oV,hst,kh],v,rfl,⟨W1,hv,⟨hV2.size,hV2.os,hV2.out,hV2.at_,hV2.old,hV2.kept⟩,Ec,hs1⟩,hP.clean,hP.over,⟨fun y hy=>?_,rfl⟩,fun j y hy hj=>?_⟩
    .obtain⟨j,hj⟩:=List.mem_iff_getElem?.1 hy;rw[List.getElem?_drop] at hj;exact⟨_,(hb.old.old (1+j) y oN (by simpa [rZ] using hj)).leaves⟩
    have hq:=hb.old.old j y oN hy;refine⟨q j,?_⟩;have e:(t++iQ 0 fr.fn fr.place es).deaf j (t++iQ 0 fr.fn fr.place es).size=Deaf t j:=AY H4 t j;rw[e];exact hq.hears _
   obtain⟨gs',aM,q',hr,hb',hsz,hlt⟩:=slip hb rfl kY hi' hx w.tape d1 EY;obtain⟨N,last,o,w',t',h1,h2,h3,h4⟩:=ih (sumTo gs'.size q') (by rw[hsz,<-hM];exact hlt) gs' d1 EY (t++aM) q' rfl hb';exact⟨N+1,last,o,w',t',by rw[runNT_succ_next (by rw[hst,hr])];exact h1,by rw[runN_succ_next (by rw[hst,hr])];exact h2,h3,h4⟩
 obtain⟨M,last,o,w',t',h1,h2,h3,h4⟩:=fin _ gs1 d1 EY t1 q1 rfl hb1;have e0:yh (G (eL P f args .normal) []) w=rZ #[G (eL P f args .normal) []] (dR w w.tape w.drawn) none:=rfl;refine⟨N+M,last,o,w',t',?_,?_,h3,h4⟩
 .rw[e0,show N+M+1=N+(M+1) by omega,runNT_add P N (M+1) _ _ _ _ hr1];exact h1
 rw[e0,<-runNT_fst P (N+M) _ #[],runNT_add P N M _ _ _ _ hr1,runNT_fst];exact h2
theorem DI[K:vP](w:ak)(hκ:∀b x,K.κ b=some x->b<w.heap.size/\∀o,w.heap[b]?=some o->gg o=false->o=x):∃W,jG W w/\dL W/\W.tape=w.tape/\W.drawn=w.drawn/\∀(b:Nat) (o:Obj),w.heap[b]?=some o->gg o=true->W.heap[b]?=some o:=by
 refine⟨{ w with heap:=w.heap.map fun o=>if gg o then o else .coro none },⟨sN,rfl,rfl,fun b=>?_,fun b x h=>by simpa using (hκ b x h).1,fun b x h h1=>?_⟩,fun b o ho=>?_,rfl,rfl,fun b o ho hk=>?_⟩
 .simp only[kF];cases h:w.heap[b]? with
  |none=>exact .inl rfl
  |some o=>
   simp only[dK]
   by_cases hk:gg o=true
   .rw[if_pos hk];exact .inl rfl
   exact .inr ⟨by rw[if_neg hk],o,rfl,by simpa using hk⟩
 .obtain⟨h2,h3⟩:=hκ b x h;simp only[kF,aN h2,dK,ia] at h1;rw[aN h2]
  by_cases hk:gg w.heap[b]=true
  .rw[if_pos hk] at h1;rw[h1] at hk;cases hk
  rw[h3 _ (aN h2) (by simpa using hk)]
 .simp only[kF] at ho;obtain⟨x,hx,rfl⟩:=eW.1 ho
  by_cases hk:gg x=true
  .rw[if_pos hk];exact .inl hk
  rw[if_neg hk];exact .inr rfl
 simp only[kF,ho,dK,hk,if_true]
end
end Go.Lag
