/- TWO RUNS OF ONE PROGRAM TEXT WHOSE NEW BLOCKS LIE AT OTHER PLACES: the .. -/
import Derived.Test.YtffladgmkiimjaaGreatDoorV06
import Derived.Conc.CrowdSel
set_option linter.all false
set_option maxHeartbeats 0
set_option maxRecDepth 1000000
open Array renaming mem_append -> GZ,getElem?_setIfInBounds_ne -> aB,getElem?_eq_getElem -> aO,getD_eq_getD_getElem? -> aY,getElem?_eq_some_iff -> ah,getElem?_setIfInBounds -> bA,getElem?_setIfInBounds_self_of_lt -> bg,replicate -> bz,mem_of_getElem? -> eV,empty_append -> eZ,all_eq_true' -> ko,getElem?_push -> lD,mapM_eq_mapM_toList -> o9,getElem?_modify -> pz,toList_map -> vW
open Bool renaming and_eq_true -> aF,false_eq_true -> bE
open Go renaming choose -> Am,Goroutine -> aC,Program -> aL,TypeId -> aZ,Value -> aj,World -> ak,undef -> ar,Operand -> bI,Frame -> bT,Addr -> cJ,execOp -> cu,Question -> dH,FuncId -> dU,runtimePanic -> eu,stepG -> fe,Event -> gq,Sem -> iN,zeroValue -> iW,underlying -> iZ,CallKind -> ki,unwind -> l_,CommCase -> m7,typeInfo -> mf,Item -> py,unsupported -> rf,behindNumber -> uY,doReturn -> uo,MapEntry -> uq,partners -> xe
open Go.Builtin renaming firstCells -> eY,zeroCells -> fO,append_ -> kz,mayShare -> pW
open Go.Conc renaming served -> fg,parked -> iB,getElem?_append_cases -> il,solo_eq_crowd -> nL,scase -> nP
open Go.Frame renaming enter -> eo
open Go.GStep renaming after -> BD
open Go.Instr renaming mapUpdate -> Av,findKey -> Dc,indexAt -> gg,findAsking -> jr,index -> m6,loadAt -> mG,checkKey -> nR
open Go.MemOp renaming ofEvents -> iC
open Go.Mode renaming plain -> mO
open Go.Op renaming equalIn -> tL
open Go.Sem renaming runT_bind' -> GV,runT -> dx
open Go.World renaming setCell -> ku
open Go.stepG renaming exec -> cA,oper -> eW,apply -> ek
open List renaming getElem_mem -> bG,length_pos_iff -> cB,mem_cons -> cy,all_cons -> dP,mem_toArray -> eR,not_mem_nil -> gJ,cons_append -> iD
open Nat renaming le_trans -> aG,le_refl -> aJ,add_sub_cancel_left -> sB
open Option renaming map_some -> dJ,map_eq_some_iff -> eH,bind_some -> gI
open Option.some renaming injEq -> gP
open Pure renaming pure -> eQ
namespace Go.Lag
open Go.Conc
abbrev Rn:=Nat->Option Nat
def Rn.le(U U':Rn):Prop:=∀b c,U b=some c->U' b=some c
def Rn.le_refl(U:Rn):Rn.le U U:=fun _ _ h=>h
def Rn.le_trans{U U' U'':Rn}(h:Rn.le U U')(h':Rn.le U' U''):Rn.le U U'':=fun b c e=>h' b c (h b c e)
structure AR(U:Rn)(a a':cJ):Prop where
 block:U a.block=some a'.block
 off:a'.off=a.off
 spot:a'.spot=a.spot
def AR.mono{U U':Rn}{a a':cJ}(h:AR U a a')(hl:Rn.le U U'):AR U' a a':=⟨hl _ _ h.block,h.off,h.spot⟩
def AR.add{U:Rn}{a a':cJ}(h:AR U a a')(n:Nat):AR U (a.add n) (a'.add n):=by
 unfold Addr.add;split
 .exact h
 exact⟨h.block,by simp[h.off],rfl⟩
def AR.at{U:Rn}{a a':cJ}(h:AR U a a')(off:Nat):AR U { a with off } { a' with off }:=⟨h.block,rfl,h.spot⟩
inductive VR(F:Nat->Bool)(U:Rn):aj->aj->Prop
 |bool (b:Bool):VR F U (.bool b) (.bool b)
 |int (k:IntKind) (n:Int):VR F U (.int k n) (.int k n)
 |string (s:ByteArray):VR F U (.string s) (.string s)
 |CQ:VR F U (.pointer none) (.pointer none)
 |ptr {a a':cJ}:AR U a a'->VR F U (.pointer (some a)) (.pointer (some a'))
 |Er (l c:Nat):VR F U (.slice none l c) (.slice none l c)
 |slice {a a':cJ} (l c:Nat):AR U a a'->VR F U (.slice (some a) l c) (.slice (some a') l c)
 |WZ:VR F U (.map none) (.map none)
 |map {r r':Nat}:U r=some r'->VR F U (.map (some r)) (.map (some r'))
 |chan (r:Option Nat):VR F U (.chan r) (.chan r)
 |func {f:dU} {fs fs' cs cs':Array aj}:F f=true->fs.size=fs'.size->(∀(i:Nat) (x y:aj),fs[i]?=some x->fs'[i]?=some y->VR F U x y)->
   cs.size=cs'.size->(∀(i:Nat) (x y:aj),cs[i]?=some x->cs'[i]?=some y->VR F U x y)->VR F U (.func (.func f) fs cs) (.func (.func f) fs' cs')
 |W8:VR F U .nilFunc .nilFunc
 |agg {cs cs':Array aj}:cs.size=cs'.size->(∀(i:Nat) (x y:aj),cs[i]?=some x->cs'[i]?=some y->VR F U x y)->VR F U (.agg cs) (.agg cs')
 |tuple {cs cs':Array aj}:cs.size=cs'.size->(∀(i:Nat) (x y:aj),cs[i]?=some x->cs'[i]?=some y->VR F U x y)->VR F U (.tuple cs) (.tuple cs')
structure iT(F:Nat->Bool)(U:Rn)(cs cs':Array aj):Prop where
 size:cs.size=cs'.size
 at_:∀(i:Nat) (x y:aj),cs[i]?=some x->cs'[i]?=some y->VR F U x y
section
variable{F:Nat->Bool}{U U':Rn}
theorem VR.mono{v v':aj}(h:VR F U v v')(hl:Rn.le U U'):VR F U' v v':=by
 induction h with
 |bool b=>exact .bool b
 |int k n=>exact .int k n
 |string s=>exact .string s
 |CQ=>exact .CQ
 |ptr h=>exact .ptr (h.mono hl)
 |Er l c=>exact .Er l c
 |slice l c h=>exact .slice l c (h.mono hl)
 |WZ=>exact .WZ
 |map h=>exact .map (hl _ _ h)
 |chan r=>exact .chan r
 |func hf h1 h2 h3 h4 Yz ih2=>exact .func hf h1 Yz h3 ih2
 |W8=>exact .W8
 |agg h1 h2 ih=>exact .agg h1 ih
 |tuple h1 h2 ih=>exact .tuple h1 ih
theorem iT.mono{cs cs':Array aj}(h:iT F U cs cs')(hl:Rn.le U U'):iT F U' cs cs':=⟨h.size,fun i x y h1 h2=>(h.at_ i x y h1 h2).mono hl⟩
theorem iT.agg{cs cs':Array aj}(h:iT F U cs cs'):VR F U (.agg cs) (.agg cs'):=.agg h.size h.at_
theorem iT.tuple{cs cs':Array aj}(h:iT F U cs cs'):VR F U (.tuple cs) (.tuple cs'):=.tuple h.size h.at_
theorem iT.get{cs cs':Array aj}(h:iT F U cs cs'){i:Nat}{x:aj}(hx:cs[i]?=some x):∃y,cs'[i]?=some y/\VR F U x y:=by
 have hi:i<cs.size:=(ah.1 hx).1;have hi':i<cs'.size:=h.size▸hi;exact⟨cs'[i],aO hi',h.at_ i x _ hx (aO hi')⟩
theorem iT.none{cs cs':Array aj}(h:iT F U cs cs'){i:Nat}(hx:cs[i]?=none):cs'[i]?=none:=by
 rw[Array.getElem?_eq_none_iff] at hx ⊢;rw[<-h.size];exact hx
theorem iT.nil:iT F U #[] #[]:=⟨rfl,fun i x y h=>by simp at h⟩
theorem iT.append{a a' b b':Array aj}(h:iT F U a a')(h':iT F U b b'):iT F U (a++b) (a'++b'):=by
 refine⟨by simp[h.size,h'.size],fun i x y h1 h2=>?_⟩;rw[Array.getElem?_append] at h1 h2;rw[<-h.size] at h2;split at h1
 .rename_i hi;simp only[hi,if_true] at h2;exact h.at_ _ _ _ h1 h2
 rename_i hi;simp only[hi,if_false] at h2;exact h'.at_ _ _ _ h1 h2
theorem iT.push{a a':Array aj}{v v':aj}(h:iT F U a a')(h':VR F U v v'):iT F U (a.push v) (a'.push v'):=by
 refine⟨by simp[h.size],fun i x y h1 h2=>?_⟩;rw[lD] at h1 h2;rw[<-h.size] at h2;split at h1
 .rename_i hi;simp only[hi,if_true] at h2;cases h1;cases h2;exact h'
 rename_i hi;simp only[hi,if_false] at h2;exact h.at_ _ _ _ h1 h2
theorem iT.one{v v':aj}(h:VR F U v v'):iT F U #[v] #[v']:=iT.nil.push h
theorem iT.extract{a a':Array aj}(h:iT F U a a')(i j:Nat):iT F U (a.extract i j) (a'.extract i j):=by
 refine⟨by simp[h.size],fun k x y h1 h2=>?_⟩;rw[Array.getElem?_extract] at h1 h2;rw[<-h.size] at h2;split at h1
 .rename_i hi;simp only[hi,if_true] at h2;exact h.at_ _ _ _ h1 h2
 cases h1
theorem iT.set{a a':Array aj}{v v':aj}(h:iT F U a a')(h':VR F U v v')(i:Nat):iT F U (a.setIfInBounds i v) (a'.setIfInBounds i v'):=by
 refine⟨by simp[h.size],fun k x y h1 h2=>?_⟩;rw[bA] at h1 h2;split at h1
 .rename_i hi;simp only[hi,if_true] at h2;split at h1
  .rename_i hl;rw[if_pos (by rw[<-h.size];omega)] at h2;cases h1;cases h2;exact h'
  cases h1
 rename_i hi;simp only[hi,if_false] at h2;exact h.at_ _ _ _ h1 h2
theorem iT.replicate{v v':aj}(h:VR F U v v')(n:Nat):iT F U (bz n v) (bz n v'):=by
 refine⟨sN,fun k x y h1 h2=>?_⟩;rw[Array.getElem?_replicate] at h1 h2
 by_cases hi:k<n
 .rw[if_pos hi] at h1 h2;cases h1;cases h2;exact h
 rw[if_neg hi] at h1;cases h1
theorem iT.getD{a a':Array aj}{v v':aj}(h:iT F U a a')(h':VR F U v v')(i:Nat):VR F U (a.getD i v) (a'.getD i v'):=by
 rw[aY,aY];cases hx:a[i]? with
 |none=>rw[h.none hx];exact h'
 |some x=>
  obtain⟨y,hy,hv⟩:=h.get hx;rw[hy];exact hv
theorem iT.map{α:Type}{l:Array α}{f g:α->aj}(h:∀x∈l,VR F U (f x) (g x)):iT F U (l.map f) (l.map g):=by
 refine⟨sN,fun k x y h1 h2=>?_⟩;simp only[Array.getElem?_map] at h1 h2;cases hk:l[k]? with
 |none=>rw[hk] at h1;cases h1
 |some z=>
  rw[hk] at h1 h2;cases h1;cases h2;exact h z (eV hk)
theorem tO:VR F U ar undef:=iT.nil.tuple
theorem VR.cells{v v':aj}(h:VR F U v v'):iT F U v.cells v'.cells:=by
 cases h with
 |agg h1 h2=>exact⟨h1,h2⟩
 |bool b=>exact .one (.bool b)
 |int k n=>exact .one (.int k n)
 |string s=>exact .one (.string s)
 |CQ=>exact .one .CQ
 |ptr h=>exact .one (.ptr h)
 |Er l c=>exact .one (.Er l c)
 |slice l c h=>exact .one (.slice l c h)
 |WZ=>exact .one .WZ
 |map h=>exact .one (.map h)
 |chan r=>exact .one (.chan r)
 |func hf h1 h2 h3 h4=>exact .one (.func hf h1 h2 h3 h4)
 |W8=>exact .one .W8
 |tuple h1 h2=>exact .one (.tuple h1 h2)
def zJ:aj->Bool
 |.bool _|.int ..|.string _|.pointer none|.slice none _ _|.map none|.chan _|.nilFunc=>true
 |_=>false
def E5:aj->Bool
 |.agg cs=>cs.all zJ
 |.tuple cs=>cs.all zJ
 |v=>zJ v
theorem LV{v:aj}(h:zJ v=true):VR F U v v:=by
 unfold zJ at h;split at h
 all_goals first|cases h;done|constructor
theorem Y4{cs:Array aj}(h:cs.all zJ=true):iT F U cs cs:=⟨rfl,fun i x y h1 h2=>by
 rw[h1] at h2;cases h2
 exact LV (ko.1 h x (eV h1))⟩
theorem zI{v:aj}(h:E5 v=true):VR F U v v:=by
 unfold E5 at h;split at h
 .exact(Y4 h).agg
 .exact(Y4 h).tuple
 exact LV h
end
structure MER(F:Nat->Bool)(U:Rn)(x y:uq):Prop where
 key:VR F U x.key y.key
 val:VR F U x.val y.val
 born:x.born=y.born
inductive OR(F:Nat->Bool)(U:Rn):Obj->Obj->Prop
 |cells {cs cs':Array aj} {e:aZ} {z z':Nat × Nat}:iT F U cs cs'->(∀i,z'.1<=i->i<z'.2->z.1<=i/\i<z.2)->OR F U (.cells cs e z) (.cells cs' e z')
 |map {es es':Array uq} {k:Nat}:es.size=es'.size->(∀(i:Nat) (x y:uq),es[i]?=some x->es'[i]?=some y->MER F U x y)->OR F U (.map es k) (.map es' k)
 |number {a a':cJ} (l:Bool):AR U a a'->OR F U (.number a l) (.number a' l)
def OR.Jc{F:Nat->Bool}{U:Rn}{o o':Obj}(h:OR F U o o'):o.isChan=false:=by cases h<;>rfl
def OR.mono{F:Nat->Bool}{U U':Rn}{o o':Obj}(h:OR F U o o')(hl:Rn.le U U'):OR F U' o o':=by
 cases h with
 |cells h1 h2=>exact .cells (h1.mono hl) h2
 |map h1 h2=>exact .map h1 fun i x y a b=>⟨(h2 i x y a b).key.mono hl,(h2 i x y a b).val.mono hl,(h2 i x y a b).born⟩
 |number l h=>exact .number l (h.mono hl)
structure WR(F:Nat->Bool)(G:Nat)(B:Nat->Prop)(U:Rn)(lw w:ak):Prop where
 inj:∀a b c,U a=some c->U b=some c->a=b
 low:∀b c,U b=some c->G<=b/\G<=c
 base:∀b,B b->b<lw.heap.size
 at_:∀b c,U b=some c->∃o o',lw.heap[b]?=some o/\w.heap[c]?=some o'/\OR F U o o'/\(B b->∃cs e n,o=.cells cs e (0,n)/\cs.size<=n)
 Jc:∀(b:Nat) (o:Obj),lw.heap[b]?=some o->o.isChan=false
def FU:Halt->Prop
 |.panic _|.stuck _=>True
 |.unsupported (.initOrder _)=>False
 |.unsupported _=>True
 |_=>False
section
variable{F:Nat->Bool}{G:Nat}{B:Nat->Prop}{U:Rn}{lw w:ak}
theorem WR.cell(h:WR F G B U lw w){a a':cJ}(ha:AR U a a'){v:aj}(hv:lw.cell? a=some v):∃v',w.cell? a'=some v'/\VR F U v v':=by
 obtain⟨o,o',h1,h2,h3,_⟩:=h.at_ _ _ ha.block;unfold World.cell? at hv ⊢;rw[h1] at hv;rw[h2];cases h3 with
 |map _ _=>cases hv
 |number _ _=>cases hv
 |cells hc hz=>
  simp only at hv ⊢;rw[ha.spot,ha.off];split at hv
  .cases hv
  rename_i hs;rw[if_neg hs];exact hc.get hv
theorem WR.noCell(h:WR F G B U lw w){P:aL}{a a':cJ}(ha:AR U a a')(hv:lw.cell? a=none){b:Bool}:∃e,lw.farLoad P a b=.error e/\FU e:=by
 obtain⟨o,o',h1,h2,h3,_⟩:=h.at_ _ _ ha.block;unfold World.farLoad World.noCell;rw[h1];cases h3 with
 |map _ _=>exact⟨_,rfl,trivial⟩
 |number _ _=>exact⟨_,rfl,trivial⟩
 |cells hc hz=>exact⟨_,rfl,trivial⟩
theorem WR.WY(h:WR F G B U lw w){P:aL}{a a':cJ}(ha:AR U a a')(hv:lw.cell? a=none){b:Bool}{v:aj}:∃e,lw.farStore P a v b=.error e/\FU e:=by
 obtain⟨o,o',h1,h2,h3,_⟩:=h.at_ _ _ ha.block;unfold World.farStore World.noCell;rw[h1];cases h3 with
 |map _ _=>exact⟨_,rfl,trivial⟩
 |number _ _=>exact⟨_,rfl,trivial⟩
 |cells hc hz=>exact⟨_,rfl,trivial⟩
theorem WR.shape(h:WR F G B U lw w){r r':Nat}(hr:U r=some r'):w.shape? r'=lw.shape? r:=by
 obtain⟨o,o',h1,h2,h3,_⟩:=h.at_ _ _ hr;unfold World.shape?;rw[h1,h2];cases h3 with
 |map _ _=>rfl
 |number _ _=>rfl
 |cells hc hz=>simp[hc.size]
theorem WR.tape(h:WR F G B U lw w)(I I':Nat->dH->Nat)(d d':Nat):WR F G B U (dn lw I d) (dn w I' d'):=⟨h.inj,h.low,h.base,h.at_,h.Jc⟩
theorem WR.turn(h:WR F G B U lw w){b c:Nat}(hb:U b=some c)(hB:¬B b){o o':Obj}(ho:OR F U o o'){ey w':ak}(h1:ey.heap=lw.heap.setIfInBounds b o)(h2:w'.heap=w.heap.setIfInBounds c o'):WR F G B U ey w':=by
 refine⟨h.inj,h.low,fun x hx=>by rw[h1];simpa using h.base x hx,fun x y hx=>?_,fun x y hx=>?_⟩
 rotate_left
 .rw[h1] at hx
  by_cases hxb:b=x
  .subst hxb;rcases Nat.lt_or_ge b lw.heap.size with hl|hl
   .rw[bg hl] at hx;cases hx;exact ho.Jc
   rw[Array.getElem?_eq_none (by simpa using hl)] at hx;cases hx
  rw[aB hxb] at hx;exact h.Jc _ _ hx
 rw[h1,h2];obtain⟨p,p',e1,e2,e3,e4⟩:=h.at_ x y hx
 by_cases hxb:b=x
 .subst hxb;have:c=y:=by rw[hb] at hx;exact Option.some.inj hx
  subst this;refine⟨o,o',?_,?_,ho,fun hlt=>absurd hlt hB⟩
  .rw[bg (eJ e1)]
  rw[bg (eJ e2)]
 have hyc:c≠y:=fun hc=>hxb (h.inj b x c hb (hc▸hx));rw[aB hxb,aB hyc];exact⟨p,p',e1,e2,e3,e4⟩
theorem yU{w:ak}{a:cJ}{v:aj}{cs:Array aj}{e:aZ}{z:Nat × Nat}(h:w.heap[a.block]?=some (.cells cs e z)) :
  (w.setCell a v).heap=w.heap.setIfInBounds a.block (.cells (if a.spot.isSome then cs else cs.setIfInBounds a.off v) e z):=by
 apply Array.ext_getElem?;intro j;simp only[ku];rw[pz,bA];split
 .rename_i Us;subst Us;rw[h,if_pos (eJ h)];rfl
 rfl
theorem WR.setCell(h:WR F G B U lw w){a a':cJ}(ha:AR U a a'){v v' x:aj}(hv:VR F U v v')(hc:lw.cell? a=some x)(hz:lw.frozen? a=false) :
  ¬B a.block/\w.frozen? a'=false/\WR F G B U (lw.setCell a v) (w.setCell a' v'):=by
 obtain⟨o,o',h1,h2,h3,h4⟩:=h.at_ _ _ ha.block;unfold World.cell? at hc;unfold World.frozen? at hz ⊢;rw[h1] at hc hz;rw[h2];cases h3 with
 |map _ _=>cases hc
 |number _ _=>cases hc
 |@cells cs cs' e z z' hcs hfz=>
  simp only at hc hz ⊢
  have agO:cs[a.off]?=some x:=by
   split at hc
   .cases hc
   exact hc
  have hB:¬B a.block:=by
   intro hlt;obtain⟨cs1,e1,n,he,hn⟩:=h4 hlt;injection he with he1 he2 he3
   subst he1;subst he3;have:=(ah.1 agO).1;have h5:a.off<n:=oN;simp[h5] at hz
  refine⟨hB,?_,?_⟩
  .rw[ha.off];cases hcc:(decide (z'.1<=a.off)&&decide (a.off<z'.2)) with
   |false=>rfl
   |true=>
    simp only[aF,decide_eq_true_eq] at hcc;have:=hfz _ hcc.1 hcc.2;simp[this] at hz
  refine h.turn ha.block hB (o:=.cells (if a.spot.isSome then cs else cs.setIfInBounds a.off v) e z) (o':=.cells (if a'.spot.isSome then cs' else cs'.setIfInBounds a'.off v') e z') ?_ (yU h1) (yU h2);rw[ha.spot,ha.off];split
  .exact .cells hcs hfz
  exact .cells (hcs.set hv _) hfz
def Rn.with(U:Rn)(b c:Nat):Rn:=fun x=>if x=b then some c else U x
theorem Rn.Py{U:Rn}{b c:Nat}(h:U b=none):Rn.le U (U.with b c):=fun x y hx=>by
 unfold Rn.with
 split
 .rename_i he;subst he;rw[h] at hx;cases hx
 exact hx
theorem Rn.Aw{U:Rn}{b c:Nat}:U.with b c b=some c:=by simp[Rn.with]
theorem WR.fresh(h:WR F G B U lw w):U lw.heap.size=none:=by
 cases e:U lw.heap.size with
 |none=>rfl
 |some c=>
  obtain⟨o,_,h1,_⟩:=h.at_ _ _ e;have:=eJ h1;omega
theorem WR.new(h:WR F G B U lw w)(hG:G<=lw.heap.size)(Dj:G<=w.heap.size){o o':Obj}(ho:OR F U o o') :
  WR F G B (U.with lw.heap.size w.heap.size) { lw with heap:=lw.heap.push o } { w with heap:=w.heap.push o' }:=by
 have hle:=Rn.Py (c:=w.heap.size) h.fresh;refine⟨fun a b c ha hb=>?_,fun b c hb=>?_,fun b hb=>by have:=h.base b hb;simp;omega,fun b c hb=>?_,fun b x hx=>?_⟩
 .unfold Rn.with at ha hb
  have lt:∀x,U x=some w.heap.size->False:=fun x hx=>by
   obtain⟨_,_,_,h2,_⟩:=h.at_ _ _ hx;have:=eJ h2;omega
  split at ha
  .split at hb
   .rename_i h1 h2;rw[h1,h2]
   cases ha;exact(lt _ hb).elim
  split at hb
  .cases hb;exact(lt _ ha).elim
  exact h.inj _ _ _ ha hb
 .unfold Rn.with at hb
  split at hb
  .rename_i he;cases hb;rw[he];exact⟨hG,Dj⟩
  exact h.low _ _ hb
 .by_cases he:b=lw.heap.size
  .subst he;rw[Rn.Aw] at hb;cases hb;refine⟨o,o',sN,sN,ho.mono hle,fun hlt=>absurd (h.base _ hlt) oN⟩
  unfold Rn.with at hb
  simp only[he,if_false] at hb;obtain⟨p,p',e1,e2,e3,e4⟩:=h.at_ _ _ hb;refine⟨p,p',?_,?_,e3.mono hle,e4⟩
  .simp only;rw[Array.getElem?_push_lt (eJ e1)];rw[<-e1];exact(aO (eJ e1)).symm
  simp only;rw[Array.getElem?_push_lt (eJ e2)];rw[<-e2];exact(aO (eJ e2)).symm
 simp only at hx;rw[lD] at hx;split at hx
 .cases hx;exact ho.Jc
 exact h.Jc _ _ hx
end
def qQ(P:aL){α:Type}(s:iN α):Prop:=∀w es,∃h w' es',s.runT P w es=(.halt h w',es')/\FU h
inductive bZ(P:aL)(F:Nat->Bool){α β:Type}(A:Rn->α->β->Prop):Rn->iN α->iN β->Prop
 |pure {U:Rn} {a:α} {b:β}:A U a b->bZ P F A U (.pure a) (.pure b)
 |dead {U:Rn} {s:iN α} {s':iN β}:qQ P s->bZ P F A U s s'
 |load {U:Rn} {a a':cJ} {k:aj->iN α} {k':aj->iN β}:AR U a a'->(∀v v',VR F U v v'->bZ P F A U (k v) (k' v'))->bZ P F A U (.load .plain a k) (.load .plain a' k')
 |store {U:Rn} {a a':cJ} {v v':aj} {k:iN α} {k':iN β}:AR U a a'->VR F U v v'->bZ P F A U k k'->bZ P F A U (.store .plain a v k) (.store .plain a' v' k')
 |new {U:Rn} {o o':Obj} {k:Nat->iN α} {k':Nat->iN β}:OR F U o o'->(∀U' r r',Rn.le U U'->U' r=some r'->bZ P F A U' (k r) (k' r'))->bZ P F A U (.new o k) (.new o' k')
 |shape {U:Rn} {r r':Nat} {k:Option (aZ × Nat)->iN α} {k':Option (aZ × Nat)->iN β}:U r=some r'->(∀s,bZ P F A U (k s) (k' s))->bZ P F A U (.shape r k) (.shape r' k')
 |getObj {U:Rn} {r r':Nat} {k:Obj->iN α} {k':Obj->iN β}:U r=some r'->(∀o o',OR F U o o'->bZ P F A U (k o) (k' o'))->bZ P F A U (.getObj r k) (.getObj r' k')
 |setObj {U:Rn} {r r':Nat} {o o':Obj} {k:iN α} {k':iN β}:U r=some r'->OR F U o o'->bZ P F A U k k'->bZ P F A U (.setObj r o k) (.setObj r' o' k')
 |choose {U:Rn} {q:dH} {k:Nat->iN α} {k':Nat->iN β}:(∀n,bZ P F A U (k n) (k' n))->bZ P F A U (.choose q k) (.choose q k')
 |program {U:Rn} {k:aL->iN α} {k':aL->iN β}:bZ P F A U (k P) (k' P)->bZ P F A U (.program k) (.program k')
 |noRoom {U:Rn} {k:iN α} {k':iN β}:bZ P F A U k k'->bZ P F A U (.mark .noRoom k) (.mark .noRoom k')
section
variable{P:aL}{F:Nat->Bool}{α β γ Z:Type}{A:Rn->α->β->Prop}{A':Rn->γ->Z->Prop}{U:Rn}
theorem rG{h:Halt}(hh:FU h):qQ P (.halt h:iN α):=fun w es=>⟨h,w,es,rfl,hh⟩
theorem qQ.bind{s:iN α}(h:qQ P s)(f:α->iN γ):qQ P (s >>= f):=fun w es=>by
 obtain⟨e,w',es',h1,h2⟩:=h w es;refine⟨e,w',es',?_,h2⟩;show(s.bind f).runT P w es=_;rw[GV,h1]
theorem bZ.bind{s:iN α}{s':iN β}{f:α->iN γ}{f':β->iN Z}(h:bZ P F A U s s')(hf:∀U' a b,Rn.le U U'->A U' a b->bZ P F A' U' (f a) (f' b)) :
  bZ P F A' U (s >>= f) (s' >>= f'):=by
 show bZ P F A' U (s.bind f) (s'.bind f')
 induction h with
 |pure ha=>exact hf _ _ _ (Rn.le_refl _) ha
 |dead hd=>exact .dead (hd.bind f)
 |load ha _ ih=>exact .load ha fun v v' hv=>ih v v' hv hf
 |store ha hv _ ih=>exact .store ha hv (ih hf)
 |new ho _ ih=>exact .new ho fun U' r r' hl hr=>ih U' r r' hl hr fun U'' a b hl'=>hf U'' a b (Rn.le_trans hl hl')
 |shape hr _ ih=>exact .shape hr fun s=>ih s hf
 |getObj hr _ ih=>exact .getObj hr fun o o' ho=>ih o o' ho hf
 |setObj hr ho _ ih=>exact .setObj hr ho (ih hf)
 |choose _ ih=>exact .choose fun n=>ih n hf
 |program _ ih=>exact .program (ih hf)
 |noRoom _ ih=>exact .noRoom (ih hf)
theorem bZ.imp{A':Rn->α->β->Prop}{s:iN α}{s':iN β}(h:bZ P F A U s s')(hf:∀U' a b,Rn.le U U'->A U' a b->A' U' a b):bZ P F A' U s s':=by
 induction h with
 |pure ha=>exact .pure (hf _ _ _ (Rn.le_refl _) ha)
 |dead hd=>exact .dead hd
 |load ha _ ih=>exact .load ha fun v v' hv=>ih v v' hv hf
 |store ha hv _ ih=>exact .store ha hv (ih hf)
 |new ho _ ih=>exact .new ho fun U' r r' hl hr=>ih U' r r' hl hr fun U'' a b hl'=>hf U'' a b (Rn.le_trans hl hl')
 |shape hr _ ih=>exact .shape hr fun s=>ih s hf
 |getObj hr _ ih=>exact .getObj hr fun o o' ho=>ih o o' ho hf
 |setObj hr ho _ ih=>exact .setObj hr ho (ih hf)
 |choose _ ih=>exact .choose fun n=>ih n hf
 |program _ ih=>exact .program (ih hf)
 |noRoom _ ih=>exact .noRoom (ih hf)
abbrev At(U:Rn)(Q:α->β->Prop):Rn->α->β->Prop:=fun U' a b=>U'=U/\Q a b
theorem bZ.dF{Q:α->β->Prop}{s:iN α}{s':iN β}{f:α->iN γ}{f':β->iN Z}(h:bZ P F (At U Q) U s s')(hf:∀a b,Q a b->bZ P F A' U (f a) (f' b)) :
  bZ P F A' U (s >>= f) (s' >>= f'):=h.bind fun U' a b _ ⟨e,hq⟩=>by subst e;exact hf a b hq
theorem bZ.dh{Q:α->β->Prop}{a:α}{b:β}(h:Q a b):bZ P F (At U Q) U (eQ a) (eQ b):=.pure ⟨rfl,h⟩
theorem bj{s:String}{s':iN β}:bZ P F A U (stuck s) s':=.dead (rG trivial)
theorem cD{u:Unsupported}{s':iN β}(h:∀g,u≠.initOrder g):bZ P F A U (rf u) s':=.dead (rG (by cases u<;>first|trivial|exact absurd rfl (h _)))
end
def SZ(R W:Nat->Prop)(e:gq):Prop:=
 (∃a:cJ,e.loc=.cell a/\e.sync=false/\R a.block/\(e.write=true->W a.block))\/(∃r,e.loc=.obj r/\e.sync=false/\R r/\(e.write=true->W r))\/e.loc=.mark .noRoom
def SZ.mono{R R' W W':Nat->Prop}{e:gq}(h:SZ R W e)(hR:∀c,R c->R' c)(hW:∀c,W c->W' c):SZ R' W' e:=by
 rcases h with⟨a,h1,h2,h3,h4⟩|⟨r,h1,h2,h3,h4⟩|h
 .exact .inl ⟨a,h1,h2,hR _ h3,fun e=>hW _ (h4 e)⟩
 .exact .inr (.inl ⟨r,h1,h2,hR _ h3,fun e=>hW _ (h4 e)⟩)
 exact .inr (.inr h)
def Rn.knows(U:Rn)(c:Nat):Prop:=∃b,U b=some c
def Rn.owns(U:Rn)(B:Nat->Prop)(c:Nat):Prop:=∃b,¬B b/\U b=some c
def vU(lw w:ak):Prop:=∀i,lw.tape (lw.drawn+i)=w.tape (w.drawn+i)
structure mX(F:Nat->Bool)(G:Nat)(B:Nat->Prop)(U:Rn)(lw w:ak)(U':Rn)(ey w':ak)(evs:Array gq):Prop where
 wr:WR F G B U' ey w'
 le:Rn.le U U'
 new:∀b c,U' b=some c->U b=some c\/(lw.heap.size<=b/\w.heap.size<=c)
 Ht:lw.heap.size<=ey.heap.size
 grow:w.heap.size<=w'.heap.size
 keep:∀c,c<w.heap.size->¬U.owns B c->w'.heap[c]?=w.heap[c]?
 fresh:∀c,w.heap.size<=c->c<w'.heap.size->U'.knows c
 tape:w'.tape=w.tape
 Px:ey.tape=lw.tape
 draw:∃k,ey.drawn=lw.drawn+k/\w'.drawn=w.drawn+k
 os:w'.os=w.os
 out:w'.output=w.output
 evs:∀e∈evs,SZ U'.knows (U'.owns B) e
section
variable{P:aL}{F:Nat->Bool}{G:Nat}{B:Nat->Prop}{U U' U'':Rn}{lw w ey w' ac_ w'':ak}{es es':Array gq}
theorem mX.refl(h:WR F G B U lw w):mX F G B U lw w U lw w #[]:=
 ⟨h,Rn.le_refl _,fun b c h=>.inl h,aJ _,aJ _,fun _ _ _=>rfl,fun c h1 h2=>absurd h1 oN,rfl,rfl,⟨0,rfl,rfl⟩,rfl,rfl,sN⟩
theorem mX.trans(h:mX F G B U lw w U' ey w' es)(h':mX F G B U' ey w' U'' ac_ w'' es')(hB:∀b,B b->b<lw.heap.size):mX F G B U lw w U'' ac_ w'' (es++es'):=by
 refine⟨h'.wr,Rn.le_trans h.le h'.le,fun b c hb=>?_,aG h.Ht h'.Ht,aG h.grow h'.grow,fun c hc hn=>?_,fun c h1 h2=>?_,h'.tape.trans h.tape,h'.Px.trans h.Px,?_,h'.os.trans h.os,h'.out.trans h.out,fun e he=>?_⟩
 .rcases h'.new b c hb with h1|⟨h1,h2⟩
  .exact h.new b c h1
  exact .inr ⟨aG h.Ht h1,aG h.grow h2⟩
 .rw[h'.keep c (Nat.lt_of_lt_of_le hc h.grow) ?_,h.keep c hc hn];rintro⟨b,hb,he⟩;rcases h.new b c he with h1|⟨_,h2⟩
  .exact hn ⟨b,hb,h1⟩
  omega
 .rcases Nat.lt_or_ge c w'.heap.size with hl|hg
  .obtain⟨b,hb⟩:=h.fresh c h1 hl;exact⟨b,h'.le _ _ hb⟩
  exact h'.fresh c hg h2
 .obtain⟨k,h1,h2⟩:=h.draw;obtain⟨k',h3,h4⟩:=h'.draw;exact⟨k+k',oN,oN⟩
 rcases GZ.1 he with h1|h1
 .exact(h.evs e h1).mono (fun c ⟨b,hb⟩=>⟨b,h'.le _ _ hb⟩) (fun c ⟨b,h1,hb⟩=>⟨b,h1,h'.le _ _ hb⟩)
 exact h'.evs e h1
theorem mX.Ys(h:mX F G B U lw w U' ey w' es)(ht:vU lw w):vU ey w':=fun i=>by
 obtain⟨k,h1,h2⟩:=h.draw;rw[h.Px,h.tape,h1,h2,Nat.add_assoc,Nat.add_assoc];exact ht _
theorem mX.more(h:mX F G B U lw w U' ey w' es)(h2:∀e∈es',SZ U'.knows (U'.owns B) e):mX F G B U lw w U' ey w' es':=
 ⟨h.wr,h.le,h.new,h.Ht,h.grow,h.keep,h.fresh,h.tape,h.Px,h.draw,h.os,h.out,h2⟩
theorem mX.push(h:mX F G B U lw w U' ey w' es){e:gq}(he:SZ U.knows (U.owns B) e):mX F G B U lw w U' ey w' (#[e]++es):=
 h.more fun x hx=>by
  rcases GZ.1 hx with h1|h1
  .simp only[eR,List.mem_singleton] at h1;subst h1;exact he.mono (fun c ⟨b,hb⟩=>⟨b,h.le _ _ hb⟩) (fun c ⟨b,h1,hb⟩=>⟨b,h1,h.le _ _ hb⟩)
  exact h.evs x h1
theorem G8(h:WR F G B U lw w)(h':WR F G B U ey w'){c:Nat}(hc:U.owns B c)(hl:ey.heap.size=lw.heap.size){o':Obj}(hh:w'.heap=w.heap.setIfInBounds c o')
  (h1:w'.tape=w.tape) (h2:ey.tape=lw.tape) (h3:ey.drawn=lw.drawn) (h4:w'.drawn=w.drawn) (h5:w'.os=w.os) (h6:w'.output=w.output):mX F G B U lw w U ey w' #[]:=
 ⟨h',Rn.le_refl _,fun b c h=>.inl h,oN,by rw[hh];simp,fun x hx hn=>by
  rw[hh,aB (fun e=>hn (by rw[<-e];exact hc))],
  fun c h1 h2=>by rw[hh] at h2;simp at h2;omega,h1,h2,⟨0,by simp[h3],by simp[h4]⟩,h5,h6,sN⟩
theorem S3(h:WR F G B U lw w)(hG:G<=lw.heap.size)(Dj:G<=w.heap.size){o o':Obj}(ho:OR F U o o') :
  mX F G B U lw w (U.with lw.heap.size w.heap.size) { lw with heap:=lw.heap.push o } { w with heap:=w.heap.push o' } #[]:=by
 refine⟨h.new hG Dj ho,Rn.Py h.fresh,fun b c hb=>?_,sN,sN,fun c hc _=>?_,fun c h1 h2=>?_,rfl,rfl,⟨0,rfl,rfl⟩,rfl,rfl,sN⟩
 .unfold Rn.with at hb
  split at hb
  .rename_i he;cases hb;exact .inr ⟨oN,aJ _⟩
  exact .inl hb
 .simp only;rw[Array.getElem?_push_lt hc];exact(aO hc).symm
 simp only[Array.size_push] at h2;have:c=w.heap.size:=oN;subst this;exact⟨lw.heap.size,Rn.Aw⟩
theorem G_(h:WR F G B U lw w):mX F G B U lw w U { lw with drawn:=lw.drawn+1 } { w with drawn:=w.drawn+1 } #[]:=
 ⟨h.tape _ _ _ _,Rn.le_refl _,fun b c h=>.inl h,aJ _,aJ _,fun _ _ _=>rfl,fun c h1 h2=>absurd h2 (by simp only;omega),rfl,rfl,⟨1,rfl,rfl⟩,rfl,rfl,sN⟩
theorem qx{α:Type}(es evs:Array α)(e:α):es.push e++evs=es++(#[e]++evs):=by
 rw[<-Array.append_assoc,Array.append_singleton]
theorem bZ.runT{α β:Type}{A:Rn->α->β->Prop}{s:iN α}{s':iN β}(h:bZ P F A U s s'):∀ {lw w:ak},WR F G B U lw w->vU lw w->G<=lw.heap.size->G<=w.heap.size->∀es es',
  (∃a ey l b w' evs U',s.runT P lw es=(.ok a ey,l)/\s'.runT P w es'=(.ok b w',es'++evs)/\A U' a b/\mX F G B U lw w U' ey w' evs)\/
  (∃e ey l,s.runT P lw es=(.halt e ey,l)/\FU e):=by
 induction h with
 |@pure U a b ha=>exact fun hw _ _ _ es es'=>.inl ⟨a,_,es,b,_,#[],U,rfl,by simp[dx],ha,.refl hw⟩
 |@dead U s s' hd=>
  intro lw w hw _ _ _ es es';obtain⟨e,w1,l,h1,h2⟩:=hd lw es;exact .inr ⟨e,w1,l,h1,h2⟩
 |@load U a a' k k' ha _ ih=>
  intro lw w hw ht hG Dj es es';simp only[dx];cases hc:lw.cell? a with
  |none=>
   obtain⟨e,h1,h2⟩:=hw.noCell (P:=P) ha hc (b:=(mO == .atomic));rw[h1];exact .inr ⟨e,lw,es,rfl,h2⟩
  |some v=>
   obtain⟨v',hc',hv⟩:=hw.cell ha hc;rw[hc'];rcases ih v v' hv hw ht hG Dj (es.push ⟨.cell a,false,mO == .atomic⟩) (es'.push ⟨.cell a',false,mO == .atomic⟩) with⟨x,kI,l,y,w1,evs,ρ1,h1,h2,h3,h4⟩|h
   .refine .inl ⟨x,kI,l,y,w1,_,ρ1,h1,?_,h3,h4.push (e:=⟨.cell a',false,mO == .atomic⟩) (.inl ⟨a',rfl,rfl,⟨_,ha.block⟩,sN⟩)⟩;exact h2.trans (by rw[qx])
   exact .inr h
 |@store U a a' v v' k k' ha hv _ ih=>
  intro lw w hw ht hG Dj es es'
  have main:(∃a1 ey l b w' evs U',(match lw.cell? a with
     |some _=>if lw.frozen? a then(.halt (.unsupported (.unsafePointer "a write to bytes that a string shares")) lw,es) else k.runT P (lw.setCell a v) (es.push ⟨.cell a,true,mO == .atomic⟩)
     |none=>match lw.farStore P a v (mO == .atomic) with
      |.ok (w,tP)=>k.runT P w (es++tP.toArray.map (⟨.cell ·,true,mO == .atomic⟩))
      |.error h=>(.halt h lw,es))=(.ok a1 ey,l)/\(match w.cell? a' with
     |some _=>if w.frozen? a' then(.halt (.unsupported (.unsafePointer "a write to bytes that a string shares")) w,es') else k'.runT P (w.setCell a' v') (es'.push ⟨.cell a',true,mO == .atomic⟩)
     |none=>match w.farStore P a' v' (mO == .atomic) with
      |.ok (w,tP)=>k'.runT P w (es'++tP.toArray.map (⟨.cell ·,true,mO == .atomic⟩))
      |.error h=>(.halt h w,es'))=(.ok b w',es'++evs)/\A U' a1 b/\mX F G B U lw w U' ey w' evs)\/(∃e ey l,(match lw.cell? a with
     |some _=>if lw.frozen? a then(.halt (.unsupported (.unsafePointer "a write to bytes that a string shares")) lw,es) else k.runT P (lw.setCell a v) (es.push ⟨.cell a,true,mO == .atomic⟩)
     |none=>match lw.farStore P a v (mO == .atomic) with
      |.ok (w,tP)=>k.runT P w (es++tP.toArray.map (⟨.cell ·,true,mO == .atomic⟩))
      |.error h=>(.halt h lw,es))=(.halt e ey,l)/\FU e):=by
   cases hc:lw.cell? a with
   |none=>
    obtain⟨e,h1,h2⟩:=hw.WY (P:=P) ha hc (b:=(mO == .atomic)) (v:=v);simp only[h1];exact .inr ⟨e,lw,es,rfl,h2⟩
   |some x=>
    obtain⟨x',hc',_⟩:=hw.cell ha hc;simp only[hc'];cases hz:lw.frozen? a with
    |true=>exact .inr ⟨_,lw,es,rfl,trivial⟩
    |false=>
     obtain⟨hB,hz',hw'⟩:=hw.setCell ha hv hc hz;simp only[hz',bE,if_false];have hsz:(lw.setCell a v).heap.size=lw.heap.size:=by simp[ku]
     have hown:U.owns B a'.block:=⟨a.block,hB,ha.block⟩
     have hturn:mX F G B U lw w U (lw.setCell a v) (w.setCell a' v') #[]:=by
      obtain⟨o,o',_,e2,_,_⟩:=hw.at_ _ _ ha.block;refine⟨hw',Rn.le_refl _,fun b c h=>.inl h,oN,by simp[ku],fun c hcl hn=>?_,fun c h1 h2=>by simp[ku] at h2;omega,rfl,rfl,⟨0,rfl,rfl⟩,rfl,rfl,sN⟩;simp only[ku,pz];rw[if_neg (fun e=>hn (by rw[<-e];exact hown))]
     rcases ih hw' (fun i=>ht i) oN (by simp[ku];exact Dj) (es.push ⟨.cell a,true,mO == .atomic⟩) (es'.push ⟨.cell a',true,mO == .atomic⟩) with⟨x,kI,l,y,w1,evs,ρ1,h1,h2,h3,h4⟩|h
     .refine .inl ⟨x,kI,l,y,w1,#[⟨.cell a',true,mO == .atomic⟩]++(#[]++evs),ρ1,h1,?_,h3,(hturn.trans h4 hw.base).push (.inl ⟨a',rfl,rfl,⟨_,ha.block⟩,fun _=>hown⟩)⟩;exact h2.trans (by simp only[qx,eZ])
     exact .inr h
  cases hv with
  |agg _ _=>exact .inr ⟨_,lw,es,rfl,trivial⟩
  |tuple _ _=>exact .inr ⟨_,lw,es,rfl,trivial⟩
  |_=>simp only[dx];exact main
 |@new U o o' k k' ho _ ih=>
  intro lw w hw ht hG Dj es es';simp only[dx];have h0:=S3 hw hG Dj ho;rcases ih _ lw.heap.size w.heap.size h0.le Rn.Aw h0.wr (h0.Ys ht) sP sP es es' with⟨x,kI,l,y,w1,evs,ρ1,h1,h2,h3,h4⟩|h
  .exact .inl ⟨x,kI,l,y,w1,_,ρ1,h1,by rw[h2];simp,h3,h0.trans h4 hw.base⟩
  exact .inr h
 |@shape U r r' k k' hr _ ih=>
  intro lw w hw ht hG Dj es es';simp only[dx];rw[hw.shape hr];exact ih _ hw ht hG Dj es es'
 |@getObj U r r' k k' hr _ ih=>
  intro lw w hw ht hG Dj es es';obtain⟨o,o',e1,e2,ho,_⟩:=hw.at_ _ _ hr;simp only[dx,e1,e2];cases ho with
  |cells _ _=>exact .inr ⟨_,lw,es,rfl,trivial⟩
  |@map es1 es2 k1 hs hm=>
   simp only;rcases ih _ _ (.map hs hm) hw ht hG Dj (es.push ⟨.obj r,false,(Obj.map es1 k1).isChan⟩) (es'.push ⟨.obj r',false,(Obj.map es2 k1).isChan⟩) with⟨x,kI,l,y,w1,evs,ρ1,h1,h2,h3,h4⟩|h
   .refine .inl ⟨x,kI,l,y,w1,_,ρ1,h1,?_,h3,h4.push (e:=⟨.obj r',false,(Obj.map es2 k1).isChan⟩) (.inr (.inl ⟨r',rfl,rfl,⟨_,hr⟩,sN⟩))⟩;exact h2.trans (by simp only[qx,eZ])
   exact .inr h
  |@number a1 a2 k1 hs=>
   simp only;rcases ih _ _ (.number k1 hs) hw ht hG Dj (es.push ⟨.obj r,false,(Obj.number a1 k1).isChan⟩) (es'.push ⟨.obj r',false,(Obj.number a2 k1).isChan⟩) with⟨x,kI,l,y,w1,evs,ρ1,h1,h2,h3,h4⟩|h
   .refine .inl ⟨x,kI,l,y,w1,_,ρ1,h1,?_,h3,h4.push (e:=⟨.obj r',false,(Obj.number a2 k1).isChan⟩) (.inr (.inl ⟨r',rfl,rfl,⟨_,hr⟩,sN⟩))⟩;exact h2.trans (by simp only[qx,eZ])
   exact .inr h
 |@setObj U r r' o o' k k' hr ho _ ih=>
  intro lw w hw ht hG Dj es es';obtain⟨p,p',e1,e2,hp,hfz⟩:=hw.at_ _ _ hr;simp only[dx,e1,e2];cases hp with
  |cells _ _=>exact .inr ⟨_,lw,es,rfl,trivial⟩
  |@map es1 es2 k1 hs hm=>
   simp only
   have hB:¬B r:=fun hl=>by
    obtain⟨_,_,_,h,_⟩:=hfz hl;cases h
   have hown:U.owns B r':=⟨r,hB,hr⟩
   have hw':WR F G B U { lw with heap:=lw.heap.setIfInBounds r o } { w with heap:=w.heap.setIfInBounds r' o' }:=hw.turn hr hB ho rfl rfl
   have hturn:mX F G B U lw w U { lw with heap:=lw.heap.setIfInBounds r o } { w with heap:=w.heap.setIfInBounds r' o' } #[]:=
    G8 hw hw' hown sN rfl rfl rfl rfl rfl rfl rfl
   have hch:o'.isChan=false:=by cases ho<;>rfl
   rcases ih hw' (fun i=>ht i) (by simpa using hG) (by simpa using Dj) (es.push ⟨.obj r,true,o.isChan⟩) (es'.push ⟨.obj r',true,o'.isChan⟩) with⟨x,kI,l,y,w1,evs,ρ1,h1,h2,h3,h4⟩|h
   .refine .inl ⟨x,kI,l,y,w1,#[⟨.obj r',true,o'.isChan⟩]++(#[]++evs),ρ1,h1,?_,h3,(hturn.trans h4 hw.base).push (.inr (.inl ⟨r',rfl,hch,⟨_,hr⟩,fun _=>hown⟩))⟩;exact h2.trans (by simp only[qx,eZ])
   exact .inr h
  |@number a1 a2 k1 hs=>
   simp only
   have hB:¬B r:=fun hl=>by
    obtain⟨_,_,_,h,_⟩:=hfz hl;cases h
   have hown:U.owns B r':=⟨r,hB,hr⟩
   have hw':WR F G B U { lw with heap:=lw.heap.setIfInBounds r o } { w with heap:=w.heap.setIfInBounds r' o' }:=hw.turn hr hB ho rfl rfl
   have hturn:mX F G B U lw w U { lw with heap:=lw.heap.setIfInBounds r o } { w with heap:=w.heap.setIfInBounds r' o' } #[]:=
    G8 hw hw' hown sN rfl rfl rfl rfl rfl rfl rfl
   have hch:o'.isChan=false:=by cases ho<;>rfl
   rcases ih hw' (fun i=>ht i) (by simpa using hG) (by simpa using Dj) (es.push ⟨.obj r,true,o.isChan⟩) (es'.push ⟨.obj r',true,o'.isChan⟩) with⟨x,kI,l,y,w1,evs,ρ1,h1,h2,h3,h4⟩|h
   .refine .inl ⟨x,kI,l,y,w1,#[⟨.obj r',true,o'.isChan⟩]++(#[]++evs),ρ1,h1,?_,h3,(hturn.trans h4 hw.base).push (.inr (.inl ⟨r',rfl,hch,⟨_,hr⟩,fun _=>hown⟩))⟩;exact h2.trans (by simp only[qx,eZ])
   exact .inr h
 |@choose U q k k' _ ih=>
  intro lw w hw ht hG Dj es es';simp only[dx];split
  .exact ih 0 hw ht hG Dj es es'
  have h0:lw.tape lw.drawn=w.tape w.drawn:=ht 0;rw[h0];have hd:=G_ hw;rcases ih (q.cut (w.tape w.drawn q)) hd.wr (hd.Ys ht) hG Dj es es' with⟨x,kI,l,y,w1,evs,ρ1,h1,h2,h3,h4⟩|h
  .exact .inl ⟨x,kI,l,y,w1,_,ρ1,h1,by rw[h2];simp,h3,hd.trans h4 hw.base⟩
  exact .inr h
 |@program U k k' _ ih=>
  intro lw w hw ht hG Dj es es';simp only[dx];exact ih hw ht hG Dj es es'
 |@noRoom U k k' _ ih=>
  intro lw w hw ht hG Dj es es';simp only[dx];rcases ih hw ht hG Dj (es.push ⟨.mark .noRoom,false,true⟩) (es'.push ⟨.mark .noRoom,false,true⟩) with⟨x,kI,l,y,w1,evs,ρ1,h1,h2,h3,h4⟩|h
  .refine .inl ⟨x,kI,l,y,w1,_,ρ1,h1,?_,h3,h4.push (e:=⟨.mark .noRoom,false,true⟩) (.inr (.inr rfl))⟩;exact h2.trans (by simp only[qx,eZ])
  exact .inr h
end
section
variable{P:aL}{F:Nat->Bool}{α β γ Z:Type}{A:Rn->α->β->Prop}{A':Rn->γ->Z->Prop}{U:Rn}
abbrev Same(U:Rn)(C:α->Prop):Rn->α->α->Prop:=At U fun a b=>a=b/\C a
theorem bZ.bH{C:α->Prop}{s s':iN α}{f:α->iN γ}{f':α->iN Z}(h:bZ P F (Same U C) U s s')(hf:∀a,C a->bZ P F A' U (f a) (f' a)) :
  bZ P F A' U (s >>= f) (s' >>= f'):=h.dF fun a b ⟨e,hc⟩=>by subst e;exact hf a hc
theorem wh{C:α->Prop}{a:α}(h:C a):bZ P F (Same U C) U (eQ a) (eQ a):=.pure ⟨rfl,rfl,h⟩
theorem cN{a:α}:bZ P F (Same U fun _=>True) U (eQ a) (eQ a):=.pure ⟨rfl,rfl,trivial⟩
theorem kD{f:aL->iN α}{f':aL->iN β}(h:bZ P F A U (f P) (f' P)):bZ P F A U (Go.program >>= f) (Go.program >>= f'):=.program h
theorem dc{t:aZ}:bZ P F (Same U fun d=>P.underlying t=some d) U (iZ t) (iZ t):=by
 unfold iZ;refine kD ?_;cases h:P.underlying t with
 |none=>exact bj
 |some d=>exact wh rfl
theorem jx{t:aZ}:bZ P F (Same U fun d=>P.info? t=some d) U (mf t) (mf t):=by
 unfold mf;refine kD ?_;cases h:P.info? t with
 |none=>exact bj
 |some d=>exact wh rfl
theorem gR{t:aZ}:bZ P F (Same U fun n=>∃i,P.info? t=some i/\n=i.size) U (sizeOf t) (sizeOf t):=by
 unfold sizeOf;refine jx.bH fun i hi=>?_;exact wh ⟨i,hi,rfl⟩
theorem DR{t:aZ}:bZ P F (Same U fun _=>True) U (isAgg t) (isAgg t):=by
 unfold isAgg;refine dc.bH fun d _=>?_;cases d<;>exact cN
def oF(P:aL)(t:aZ):Bool:=((P.info? t).bind (·.zero)).all E5
theorem lI{t:aZ}(h:oF P t=true):bZ P F (At U (VR F U)) U (iW t) (iW t):=by
 unfold iW;refine jx.bH fun i hi=>?_;unfold oF at h;rw[hi] at h;cases hz:i.zero with
 |none=>exact cD (fun g=>by simp)
 |some v=>
  simp only[gI,hz,Option.all_some] at h;exact .dh (zI h)
theorem Hk{a a':cJ}(ha:AR U a a'):bZ P F (At U (VR F U)) U (load a) (load a'):=.load ha fun v v' hv=>.dh hv
theorem qs{a a':cJ}(ha:AR U a a'):∀(n i:Nat) {acc Yd:Array aj},iT F U acc Yd->bZ P F (At U (iT F U)) U (loadCellsFrom a i n acc) (loadCellsFrom a' i n Yd)
 |0,i,acc,Yd,h=>.dh h
 |n+1,i,acc,Yd,h=>(Hk (ha.add i)).dF fun v v' hv=>qs ha n (i+1) (h.push hv)
theorem vp{a a':cJ}(ha:AR U a a')(n:Nat):bZ P F (At U (iT F U)) U (loadCells a n) (loadCells a' n):=qs ha n 0 .nil
theorem yV{t:aZ}{a a':cJ}(ha:AR U a a'):bZ P F (At U (VR F U)) U (loadVar t a) (loadVar t a'):=by
 unfold loadVar;refine DR.bH fun b _=>?_;cases b with
 |true=>exact gR.bH fun n _=>(vp ha n).dF fun cs cs' h=>.dh h.agg
 |false=>exact Hk ha
theorem Nd{a a':cJ}{v v':aj}(ha:AR U a a')(hv:VR F U v v'):bZ P F (At U fun _ _=>True) U (store a v) (store a' v'):=.store ha hv (.dh trivial)
inductive Ss(F:Nat->Bool)(U:Rn):List aj->List aj->Prop
 |nil:Ss F U [] []
 |cons {x y:aj} {l m:List aj}:VR F U x y->Ss F U l m->Ss F U (x::l) (y::m)
theorem ZR{l m:List aj}(hs:l.length=m.length)(h:∀(i:Nat) (x y:aj),l[i]?=some x->m[i]?=some y->VR F U x y):Ss F U l m:=by
 induction l generalizing m with
 |nil=>
  cases m with
  |nil=>exact .nil
  |cons y m=>cases hs
 |cons x l ih=>
  cases m with
  |nil=>cases hs
  |cons y m=>exact .cons (h 0 x y rfl rfl) (ih (by simpa using hs) fun i a b h1 h2=>h (i+1) a b (by simpa using h1) (by simpa using h2))
theorem iT.list{a a':Array aj}(h:iT F U a a'):Ss F U a.toList a'.toList:=ZR (by simpa using h.size) fun i x y h1 h2=>h.at_ i x y (by simpa using h1) (by simpa using h2)
theorem Ss.row{l m:List aj}(h:Ss F U l m):iT F U l.toArray m.toArray:=by
 induction h with
 |nil=>exact .nil
 |@cons x y l m hv _ ih=>
  have:=(iT.one hv).append ih;simpa using this
theorem ux{a a':cJ}(ha:AR U a a'){l m:List aj}(h:Ss F U l m):∀i,bZ P F (At U fun _ _=>True) U (storeCells a l i) (storeCells a' m i):=by
 induction h with
 |nil=>intro i;exact .dh trivial
 |cons hv _ ih=>intro i;exact(Nd (ha.add i) hv).dF fun _ _ _=>ih (i+1)
theorem Ga{t:aZ}{a a':cJ}{v v':aj}(ha:AR U a a')(hv:VR F U v v'):bZ P F (At U fun _ _=>True) U (storeVar t a v) (storeVar t a' v'):=by
 unfold storeVar;refine gR.bH fun n _=>?_;rw[<-hv.cells.size];split
 .exact .dead ((rG (h:=.stuck _) trivial).bind _)
 exact ux ha hv.cells.list 0
theorem vo{e:aZ}{cs cs':Array aj}(h:iT F U cs cs'):bZ P F AR U (newRow e cs) (newRow e cs'):=by
 unfold newRow;exact bZ.bind (A:=fun U' r r'=>U' r=some r') (.new (.cells h fun i h1 h2=>absurd h2 (Nat.not_lt_zero _)) fun U' r r' _ hr=>.pure hr) fun U' r r' _ hr=>.pure ⟨hr,rfl,rfl⟩
theorem BR{e:aZ}{v v':aj}(h:VR F U v v'):bZ P F AR U (newVar e v) (newVar e v'):=vo h.cells
theorem n9{t:aZ}{cs cs':Array aj}(h:iT F U cs cs')(off:Nat):bZ P F (At U (VR F U)) U (part t cs off) (part t cs' off):=by
 unfold part;refine DR.bH fun b _=>?_;cases b with
 |true=>exact gR.bH fun n _=>.dh (h.extract _ _).agg
 |false=>
  simp only[bE,if_false];cases hx:cs[off]? with
  |none=>exact bj
  |some x=>
   obtain⟨y,hy,hv⟩:=h.get hx;rw[hy];exact .dh hv
theorem qq{r r':Nat}(h:U r=some r'):bZ P F (Same U fun _=>True) U (shape r) (shape r'):=.shape h fun s=>cN
theorem Gb{r r':Nat}(h:U r=some r'):bZ P F (At U fun x y=>(x=none/\y=none)\/∃a a' l,x=some (a,l)/\y=some (a',l)/\AR U a a') U (numberAt r) (numberAt r'):=by
 unfold numberAt;refine(qq h).bH fun s _=>?_;split
 .exact .dh (.inl ⟨rfl,rfl⟩)
 .refine bZ.dF (Q:=OR F U) (.getObj h fun o o' ho=>.dh ho) fun o o' ho=>?_;cases ho with
  |cells _ _=>exact .dh (.inl ⟨rfl,rfl⟩)
  |map _ _=>exact .dh (.inl ⟨rfl,rfl⟩)
  |number l ha=>exact .dh (.inr ⟨_,_,l,rfl,rfl,ha⟩)
theorem iE{a a':cJ}(h:AR U a a'):bZ P F (At U fun x y=>AR U x.1 y.1/\x.2=y.2) U (uY a) (uY a'):=by
 unfold uY;refine(Gb h.block).dF fun x y ZX=>?_;rcases ZX with⟨rfl,rfl⟩|⟨b,b',l,rfl,rfl,hb⟩
 .exact .dh ⟨h,rfl⟩
 exact .dh ⟨hb,rfl⟩
theorem BO{r r':Nat}(h:U r=some r'):bZ P F (At U fun x y=>x=none/\y=none) U (viewAt r) (viewAt r'):=by
 unfold viewAt;refine(qq h).bH fun s _=>?_;split
 .exact .dh ⟨rfl,rfl⟩
 refine bZ.dF (Q:=OR F U) (.getObj h fun o o' ho=>.dh ho) fun o o' ho=>?_;cases ho<;>exact .dh ⟨rfl,rfl⟩
theorem KB{a a':cJ}(h:AR U a a'):bZ P F (At U fun _ _=>True) U (noView a) (noView a'):=by
 unfold noView;refine(BO h.block).dF fun x y ⟨hx,hy⟩=>?_;subst hx;subst hy;exact .dh trivial
theorem tR{v v':aj}(h:VR F U v v'):bZ P F (Same U fun x=>v=.int x.1 x.2/\v'=.int x.1 x.2) U (asIntOf v) (asIntOf v'):=by
 cases h<;>first|exact .pure ⟨rfl,rfl,rfl,rfl⟩|exact bj|exact cD sN
theorem Nj{v v':aj}(h:VR F U v v'):bZ P F (Same U fun n=>∃k,v=.int k n/\v'=.int k n) U (asInt v) (asInt v'):=by
 unfold asInt;exact(tR h).bH fun x hx=>wh ⟨_,hx⟩
theorem KH{a a':cJ}(h:AR U a a'):bZ P F (Same U fun _=>True) U (byteOf a) (byteOf a'):=by
 unfold byteOf;rw[h.spot];cases a.spot with
 |some s=>exact cN
 |none=>
  simp only[pure_bind];refine kD ?_;refine(KB h).dF fun _ _ _=>(qq h.block).bH fun s _=>?_;cases s with
  |none=>exact bj
  |some x=>
   obtain⟨e,n⟩:=x;simp only[h.off];split
   .exact cN
   .cases byteOfCell P P.depth e (a.off % P.cellsOf e) with
    |none=>exact bj
    |some b=>exact cN
theorem pD{α:Type}{e:RuntimeError}(h:∀i c a m,e≠.typeAssertion i c a m)(h':e≠.panicNil):qQ P (eu e:iN α):=by
 intro w es;cases e with
 |typeAssertion i c a m=>exact absurd rfl (h _ _ _ _)
 |panicNil=>exact absurd rfl h'
 |_=>exact⟨_,w,es,rfl,trivial⟩
theorem gw{e:RuntimeError}{s':iN β}(h:∀i c a m,e≠.typeAssertion i c a m:=by simp)(h':e≠.panicNil:=by simp):bZ P F A U (eu e) s':=.dead (pD h h')
theorem fA{u:Unsupported}(h:∀g,u≠.initOrder g):qQ P (rf u:iN α):=rG (by cases u<;>first|trivial|exact absurd rfl (h _))
theorem vt{q:dH}:bZ P F (Same U fun _=>True) U (Am q) (Am q):=.choose fun n=>cN
theorem lX{k:IntKind}{x y:Int}{c:BoundsCode}:bZ P F A U (boundsPanic k x y c:iN α) (boundsPanic k x y c:iN β):=by
 unfold boundsPanic;dsimp only;split
 .refine bZ.bind (A:=fun _ _ _=>True) (bZ.bind (A:=fun _ _ _=>True) (vt.imp fun _ _ _ _ _=>trivial) fun _ _ _ _ _=>.pure trivial) fun U' a b _ _=>?_;exact gw
 refine bZ.bind (A:=fun _ _ _=>True) (.pure trivial) fun U' a b _ _=>?_;exact gw
theorem vh{ts ts':Array aZ}{t t':aZ}{p p':Option cJ}{v v':aj}(hp:VR F U (.pointer p) (.pointer p'))(hv:VR F U v v') :
  bZ P F (At U fun x y=>∃a a',AR U a a'/\x=.pointer (some a)/\y=.pointer (some a')) U (Builtin.unsafeAdd_ ts t #[.pointer p,v]) (Builtin.unsafeAdd_ ts' t' #[.pointer p',v']):=by
 unfold Builtin.unsafeAdd_;refine(Nj hv).bH fun n _=>?_
 by_cases h0:n=0
 .simp only[h0,if_true];cases hp with
  |CQ=>exact .dead ((fA sN).bind _)
  |ptr ha=>
   simp only[bind_assoc];refine(BO ha.block).dF fun x y ⟨hx,hy⟩=>?_;subst hx;subst hy;exact .dh ⟨_,_,ha,rfl,rfl⟩
 simp only[h0,if_false,pure_bind]
 by_cases h1:n<0
 .simp only[h1,if_true];exact .dead ((fA sN).bind _)
 .simp only[h1,if_false,pure_bind];cases hp with
  |CQ=>exact cD sN
  |@ptr a a' ha=>
   refine(qq ha.block).bH fun s _=>?_;cases s with
   |none=>exact cD sN
   |some x=>
    obtain⟨e,n'⟩:=x;refine kD ?_;simp only[ha.off];cases cellAtBytes P P.depth e (n' / P.cellsOf e) a.off n with
    |none=>exact cD sN
    |some off=>exact .dh ⟨_,_,ha.at off,rfl,rfl⟩
theorem Gf{a a':cJ}(ha:AR U a a')(l:Bool):bZ P F (VR F) U (asNumber a l) (asNumber a' l):=by
 unfold asNumber;exact bZ.bind (A:=fun U' r r'=>U' r=some r') (.new (.number l ha) fun U' r r' _ hr=>.pure hr) fun U' r r' _ hr=>.pure (.ptr ⟨hr,rfl,rfl⟩)
end
structure Vr(P:aL)(U:Rn):Prop where
 inj:∀a b c,U a=some c->U b=some c->a=b
 low:∀b c,U b=some c->P.globals.size<=b/\P.globals.size<=c
def AR.eq_iff{U:Rn}(hi:∀a b c,U a=some c->U b=some c->a=b){a a' b b':cJ}(ha:AR U a a')(hb:AR U b b'):a=b↔a'=b':=by
 constructor
 .rintro rfl;have h1:=ha.block;rw[hb.block] at h1;injection h1 with h1
  cases a';cases b';have:=ha.off;have:=hb.off;have:=ha.spot;have:=hb.spot;simp_all
 rintro rfl;have:=hi _ _ _ ha.block hb.block;cases a;cases b;have:=ha.off;have:=hb.off;have:=ha.spot;have:=hb.spot;simp_all
section
variable{P:aL}{F:Nat->Bool}{α β γ Z:Type}{A:Rn->α->β->Prop}{A':Rn->γ->Z->Prop}{U:Rn}
theorem xP{t:aZ}{k:IntKind}(ht:P.underlying t=some (.int k)){p p':Option cJ}(hp:VR F U (.pointer p) (.pointer p')){v v':aj}(hv:VR F U v v') :
  bZ P F (VR F) U (movedNumber t (.pointer p) v) (movedNumber t (.pointer p') v'):=by
 unfold movedNumber;refine dc.bH fun d hd=>?_;rw[ht] at hd;cases hd;simp only[bE,if_false,pure_bind];cases hp with
 |CQ=>
  refine(vh (.CQ) hv).imp fun U' x y _ h=>?_;obtain⟨rfl,a,a',ha,rfl,rfl⟩:=h;exact .ptr ha
 |ptr ha=>
  refine(iE ha).dF fun x y ZX=>?_;obtain⟨x1,x2⟩:=x;obtain⟨y1,y2⟩:=y;obtain⟨h1,h2⟩:=ZX;simp only at h1 h2;subst h2;refine(vh (.ptr h1) hv).dF fun x y ZX=>?_;obtain⟨a,a',ha,rfl,rfl⟩:=ZX;exact Gf ha _
theorem IV{k:IntKind}{a a':cJ}(ha:AR U a a')(n:Int):bZ P F (VR F) U (Op.addrMod k a n) (Op.addrMod k a' n):=by
 unfold Op.addrMod;refine(qq ha.block).bH fun s _=>?_;cases s with
 |none=>exact cD sN
 |some x=>
  obtain⟨e,m⟩:=x;refine jx.bH fun i _=>?_;dsimp only;split
  .exact .dead ((fA sN).bind _)
  refine(KH ha).bH fun b _=>?_;exact .pure (.int _ _)
theorem vn(R:Vr P U){a a' b b':cJ}(ha:AR U a a'){f:Nat × Nat->iN α}{s':iN β}:bZ P F A U (Op.twoPlaces a b >>= f) s':=by
 refine .dead (qQ.bind ?_ f);unfold Op.twoPlaces;intro w es;have h:=(R.low _ _ ha.block).1;have hh:(a.block !=b.block||decide (a.block≥P.globals.size))=true:=by simp[h]
 have hp:∀ {γ:Type} (f:aL->iN γ),(Go.program >>= f).runT P w es=(f P).runT P w es:=fun f=>rfl;rw[hp];dsimp only;rw[if_pos hh];exact((fA sN).bind _) w es
theorem Gc{op:BinOp}{k:IntKind}{a b:Int}:bZ P F (VR F) U (Op.intArith op k a b) (Op.intArith op k a b):=by
 unfold Op.intArith;split<;>first|exact .pure (.int _ _)|exact bj
theorem KE{op:BinOp}{k:IntKind}{a b:Int}:bZ P F (VR F) U (Op.intDiv op k a b) (Op.intDiv op k a b):=by
 unfold Op.intDiv;split
 .exact gw
 split<;>first|exact .pure (.int _ _)|exact bj
theorem IK{op:BinOp}{k:IntKind}{a b:Int}:bZ P F (VR F) U (Op.intBits op k a b) (Op.intBits op k a b):=by
 unfold Op.intBits;dsimp only;split<;>first|exact .pure (.int _ _)|exact bj
theorem KF{op:BinOp}{a b:Int}:bZ P F (VR F) U (Op.intCmp op a b) (Op.intCmp op a b):=by
 unfold Op.intCmp;split<;>first|exact .pure (.bool _)|exact bj
theorem DL{op:BinOp}{k k':IntKind}{a b:Int}:bZ P F (VR F) U (Op.shift op k a k' b) (Op.shift op k a k' b):=by
 unfold Op.shift;split
 .exact gw
 dsimp only;split<;>first|exact .pure (.int _ _)|exact bj
theorem xj{op:BinOp}{a b:ByteArray}:bZ P F (VR F) U (Op.stringOp op a b) (Op.stringOp op a b):=by
 unfold Op.stringOp;dsimp only;split
 .split
  .exact cD sN
  exact .pure (.string _)
 all_goals first|exact .pure (.bool _)|exact bj
def Yx:BinOp->Bool
 |.add|.sub|.mul|.quo|.shl|.shr|.and|.or|.lss|.leq|.gtr|.geq=>true
 |_=>false
theorem vq{op:BinOp}{t:aZ}{k k':IntKind}{a b:Int}:bZ P F (VR F) U (binOp op t (.int k a) (.int k' b)) (binOp op t (.int k a) (.int k' b)):=by
 by_cases hk:k=k'
 .cases op<;>simp only[binOp,hk,ne_eq,not_true,not_false_eq_true,if_true,if_false]<;>first|exact Gc|exact KE|exact IK|exact KF|exact DL
 cases op<;>simp only[binOp,hk,ne_eq,not_true,not_false_eq_true,if_true,if_false]<;>first|exact bj|exact DL
theorem Ni(R:Vr P U){op:BinOp}{t:aZ}{k:IntKind}(ht:P.underlying t=some (.int k))(hop:Yx op=true){x x' y y':aj}(hx:VR F U x x')(hy:VR F U y y') :
  bZ P F (VR F) U (binOp op t x y) (binOp op t x' y'):=by
 have acH:∀ {p p':Option cJ} {v v':aj},VR F U (.pointer p) (.pointer p')->VR F U v v'->
   bZ P F (VR F) U (do if (<-iZ t) matches .unsafePointer then movedPointer t (.pointer p) v else movedNumber t (.pointer p) v) (do if (<-iZ t) matches .unsafePointer then movedPointer t (.pointer p') v' else movedNumber t (.pointer p') v'):=by
  intro p p' v v' hp hv;refine dc.bH fun d hd=>?_;rw[ht] at hd;cases hd;exact xP ht hp hv
 have pp:∀ {a a' b b':cJ} (g:cJ->cJ->iN aj) (g':cJ->cJ->iN aj),(∀c d c' d',AR U c c'->AR U d d'->bZ P F (VR F) U (g c d) (g' c' d'))->AR U a a'->AR U b b'->
   bZ P F (VR F) U (do g (<-uY a).1 (<-uY b).1) (do g' (<-uY a').1 (<-uY b').1):=by
  intro a a' b b' g g' hg ha hb;exact(iE ha).dF fun c c' hc=>(iE hb).dF fun d d' hd=>hg _ _ _ _ hc.1 hd.1
 have pm:∀ {a a':cJ} (k:IntKind) (n:Int),AR U a a'->bZ P F (VR F) U (do Op.addrMod k (<-uY a).1 n) (do Op.addrMod k (<-uY a').1 n):=by
  intro a a' k n ha;exact(iE ha).dF fun c c' hc=>IV hc.1 n
 have agy:∀c d c' d',AR U c c'->AR U d d'->bZ P F (VR F) U (Op.addrSub .u64 c d) (Op.addrSub .u64 c' d'):=fun c d c' d' hc hd=>by
  unfold Op.addrSub;exact vn R hc (b':=d')
 have N4:∀op c d c' d',AR U c c'->AR U d d'->bZ P F (VR F) U (Op.addrCmp op c d) (Op.addrCmp op c' d'):=fun op c d c' d' hc hd=>by
  unfold Op.addrCmp;exact vn R hc (b':=d')
 have agz:∀op a b,binOp op t (.string a) (.string b)=Op.stringOp op a b:=fun op a b=>by cases op<;>simp only[binOp]
 cases hx<;>cases hy<;>first
  |exact vq
  |(rw[agz];exact xj)
  |(cases op<;>first|(cases hop;done)|exact xj|exact bj|exact cD sN|exact acH (.ptr ‹_›) (.int _ _)|exact acH .CQ (.int _ _)|exact xP ht (.ptr ‹_›) (.int _ _)|exact xP ht .CQ (.int _ _)|exact pp _ _ agy ‹_› ‹_›|exact pp _ _ (N4 _) ‹_› ‹_›|exact pm _ _ ‹_›)
end
def po(P:aL):Nat->aZ->Bool
 |0,_=>false
 |n+1,t=>
  match P.underlying t with
  |some (.struct fs)=>fs.all fun f=>po P n f.type
  |some (.array _ e)=>po P n e
  |some .bool|some .string|some (.int _)|none=>true
  |_=>false
section
variable{P:aL}{F:Nat->Bool}{α β γ Z:Type}{A:Rn->α->β->Prop}{A':Rn->γ->Z->Prop}{U:Rn}
theorem uy{ι:Type}{f f':ι->β->iN (ForInStep β)}{l:List ι}(hf:∀a∈l,∀b,bZ P F (Same U fun _=>True) U (f a b) (f' a b)):∀b,bZ P F (Same U fun _=>True) U (forIn l b f) (forIn l b f'):=by
 induction l with
 |nil=>intro b;exact cN
 |cons a l ih=>
  intro b;rw[List.forIn_cons,List.forIn_cons];refine(hf a sN b).bH fun r _=>?_;cases r with
  |done b=>exact cN
  |yield b=>exact ih (fun a ha=>hf a (by simp[ha])) b
theorem sI{ι:Type}{f f':ι->β->iN (ForInStep β)}{l:Array ι}(hf:∀a∈l,∀b,bZ P F (Same U fun _=>True) U (f a b) (f' a b))(b:β):bZ P F (Same U fun _=>True) U (forIn l b f) (forIn l b f'):=by
 rw[<-Array.forIn_toList,<-Array.forIn_toList];exact uy (fun a ha=>hf a (by simpa using ha)) _
theorem sH{f f':Nat->β->iN (ForInStep β)}(hf:∀a b,bZ P F (Same U fun _=>True) U (f a b) (f' a b))(l:Std.Legacy.Range)(b:β):bZ P F (Same U fun _=>True) U (forIn l b f) (forIn l b f'):=by
 rw[Std.Legacy.Range.forIn_eq_forIn_range',Std.Legacy.Range.forIn_eq_forIn_range'];exact uy (fun a _=>hf a) _
theorem pH(R:Vr P U):∀(n d:Nat) (t:aZ),po P n t=true->∀(x x' y y':aj),VR F U x x'->VR F U y y'->bZ P F (Same U fun _=>True) U (tL d t x y) (tL d t x' y')
 |0,d,t,h,x,x',y,y',hx,hy=>by cases h
 |n+1,0,t,h,x,x',y,y',hx,hy=>by simp only[tL];exact cD sN
 |n+1,d+1,t,h,x,x',y,y',hx,hy=>by
  simp only[tL];refine dc.bH fun ds LC=>?_;simp only[po,LC] at h;cases ds with
  |bool=>cases hx<;>first|exact bj|(cases hy<;>first|exact bj|exact cN)
  |string=>cases hx<;>first|exact bj|(cases hy<;>first|exact bj|exact cN)
  |int k=>
   cases hx with
   |int k1 m=>
    cases hy with
    |int k2 m2=>dsimp only;split<;>first|exact cN|exact bj
    |ptr ha=>
     cases m with
     |ofNat n=>
      cases n with
      |zero=>exact cN
      |succ n=>exact cD sN
     |negSucc n=>exact cD sN
    |_=>first|exact bj|exact cD sN
   |ptr ha=>
    cases hy with
    |int k2 m2=>
     cases m2 with
     |ofNat n=>
      cases n with
      |zero=>exact cN
      |succ n=>exact cD sN
     |negSucc n=>exact cD sN
    |ptr hb=>
     dsimp only;refine(iE ha).dF fun c c' hc=>(iE hb).dF fun d d' hd=>kD ?_
     have e1:(c.fst.block==d.fst.block&&decide (c.fst.block<P.globals.size))=false:=by
      have:=(R.low _ _ hc.1.block).1;simp;omega
     have e2:(c'.fst.block==d'.fst.block&&decide (c'.fst.block<P.globals.size))=false:=by
      have:=(R.low _ _ hc.1.block).2;simp;omega
     simp only[e1,e2,bE,if_false];refine jx.bH fun i _=>?_;split
     .have e3:=hc.1.eq_iff R.inj hd.1
      by_cases he:c.fst=d.fst
      .simp only[he,beq_self_eq_true,if_true,e3.1 he];exact cN
      have he':=fun h=>he (e3.2 h);simp only[beq_eq_false_iff_ne.2 he,bE,if_false];exact cD sN
     exact cD sN
    |_=>first|exact bj|exact cD sN
   |_=>cases hy<;>first|exact bj|exact cD sN
  |struct fs=>
   cases hx<;>first|exact bj|(cases hy<;>first|exact bj|skip)
   rename_i cs cs' hs hv ds ds' hs' hv';dsimp only;refine kD ?_;split
   .exact .dead ((fA sN).bind _)
   refine bZ.bH (C:=fun _=>True) (sI (fun f hf b=>?_) _) fun r _=>?_
   .split
    .refine(n9 ⟨hs,hv⟩ _).dF fun p p' hp=>(n9 ⟨hs',hv'⟩ _).dF fun q q' hq=>?_;refine(pH R n d f.type (ko.1 h f hf) _ _ _ _ hp hq).bH fun b _=>?_;split<;>exact cN
    exact cN
   split<;>exact cN
  |array len e=>
   cases hx<;>first|exact bj|(cases hy<;>first|exact bj|skip)
   rename_i cs cs' hs hv ds ds' hs' hv';dsimp only;refine gR.bH fun m _=>?_;refine bZ.bH (C:=fun _=>True) (sH (fun i b=>?_) _ _) fun r _=>?_
   .refine(n9 ⟨hs,hv⟩ _).dF fun p p' hp=>(n9 ⟨hs',hv'⟩ _).dF fun q q' hq=>?_;refine(pH R n d e h _ _ _ _ hp hq).bH fun b _=>?_;split<;>exact cN
   split<;>exact cN
  |_=>cases h
theorem oy{em:Bool}:∀(n d:Nat) (t:aZ),po P n t=true->∀(x x':aj),VR F U x x'->bZ P F (Same U fun _=>True) U (nR em d t x) (nR em d t x')
 |0,d,t,h,x,x',hx=>by cases h
 |n+1,0,t,h,x,x',hx=>by simp only[nR];exact cD sN
 |n+1,d+1,t,h,x,x',hx=>by
  simp only[nR];refine dc.bH fun ds LC=>?_;simp only[po,LC] at h;cases ds with
  |bool=>cases hx<;>exact cN
  |string=>cases hx<;>exact cN
  |int k=>cases hx<;>exact cN
  |struct fs=>
   cases hx<;>first|exact bj|skip
   rename_i cs cs' hs hv;dsimp only;refine bZ.bH (C:=fun _=>True) (sI (fun f hf b=>?_) _) fun _ _=>cN;split
   .refine(n9 ⟨hs,hv⟩ _).dF fun p p' hp=>?_;refine(oy n d f.type (ko.1 h f hf) _ _ hp).bH fun b _=>?_;exact cN
   exact cN
  |array len e=>
   cases hx<;>first|exact bj|skip
   rename_i cs cs' hs hv;dsimp only;refine bZ.bH (C:=fun _=>True) (sH (fun i b=>?_) _ _) fun _ _=>cN;refine gR.bH fun m _=>(n9 ⟨hs,hv⟩ _).dF fun p p' hp=>?_;refine(oy n d e h _ _ hp).bH fun b _=>?_;exact cN
  |_=>cases h
inductive EL(F:Nat->Bool)(U:Rn):List uq->List uq->Prop
 |nil:EL F U [] []
 |cons {x y:uq} {l m:List uq}:MER F U x y->EL F U l m->EL F U (x::l) (y::m)
theorem Y6{l m:List uq}(hs:l.length=m.length)(h:∀(i:Nat) (x y:uq),l[i]?=some x->m[i]?=some y->MER F U x y):EL F U l m:=by
 induction l generalizing m with
 |nil=>
  cases m with
  |nil=>exact .nil
  |cons y m=>cases hs
 |cons x l ih=>
  cases m with
  |nil=>cases hs
  |cons y m=>exact .cons (h 0 x y rfl rfl) (ih (by simpa using hs) fun i a b h1 h2=>h (i+1) a b (by simpa using h1) (by simpa using h2))
def Fnd(F:Nat->Bool)(U:Rn)(x y:Option (Nat × aj)):Prop:=(x=none/\y=none)\/∃i v v',x=some (i,v)/\y=some (i,v')/\VR F U v v'
theorem CO(R:Vr P U){n:Nat}{t:aZ}(h:po P n t=true){k k':aj}(hk:VR F U k k'){l m:List uq}(he:EL F U l m) :
  ∀i,bZ P F (At U (Fnd F U)) U (jr t k l i) (jr t k' m i):=by
 induction he with
 |nil=>intro i;exact .dh (.inl ⟨rfl,rfl⟩)
 |cons hx _ ih=>
  intro i;simp only[jr];refine(pH R n _ t h _ _ _ _ hk hx.key).bH fun b _=>?_;cases b with
  |true=>exact .dh (.inr ⟨i,_,_,rfl,rfl,hx.val⟩)
  |false=>exact ih (i+1)
theorem QC{ds:TypeDesc}{k k' e e':aj}(hk:VR F U k k')(he:VR F U e e'):Instr.sameNow ds k e=Instr.sameNow ds k' e':=by
 cases ds<;>cases hk<;>first|rfl|(cases he<;>rfl)
theorem RL{ds:TypeDesc}{k k':aj}(hk:VR F U k k'){l m:List uq}(he:EL F U l m):∀i,
  (Instr.findNow ds k l i=none/\Instr.findNow ds k' m i=none)\/∃x y,Instr.findNow ds k l i=some x/\Instr.findNow ds k' m i=some y/\Fnd F U x y:=by
 induction he with
 |nil=>intro i;exact .inr ⟨none,none,rfl,rfl,.inl ⟨rfl,rfl⟩⟩
 |cons hx _ ih=>
  intro i;simp only[Instr.findNow,<-QC (ds:=ds) hk hx.key];split
  .exact .inr ⟨_,_,rfl,rfl,.inr ⟨i,_,_,rfl,rfl,hx.val⟩⟩
  .exact ih (i+1)
  exact .inl ⟨rfl,rfl⟩
theorem yY(R:Vr P U){n:Nat}{t:aZ}(h:po P n t=true){k k':aj}(hk:VR F U k k'){l m:List uq}(he:EL F U l m) :
  bZ P F (At U (Fnd F U)) U (Dc t k l) (Dc t k' m):=by
 unfold Dc;refine dc.bH fun ds _=>?_;rcases RL (ds:=ds) hk he 0 with⟨h1,h2⟩|⟨x,y,h1,h2,h3⟩
 .simp only[h1,h2];exact CO R h hk he 0
 simp only[h1,h2];exact .dh h3
def TG(P:aL)(t:aZ):Bool:=match P.underlying t with|some (.map k e)=>po P 6 k&&oF P e|_=>true
theorem BS{r r':Nat}(h:U r=some r'):bZ P F (At U (OR F U)) U (getObj r) (getObj r'):=.getObj h fun o o' ho=>.dh ho
theorem KC(R:Vr P U){t:aZ}(ht:TG P t=true){x x' k k':aj}(hx:VR F U x x')(hk:VR F U k k')(ok:Bool) :
  bZ P F (At U (VR F U)) U (Instr.lookup t x k ok) (Instr.lookup t x' k' ok):=by
 unfold Instr.lookup;refine dc.bH fun ds LC=>?_;cases ds<;>first|exact bj|skip
 rename_i kt et;simp only[TG,LC,aF] at ht;dsimp only
 have rest:∀ {es es':Array uq},es.size=es'.size->EL F U es.toList es'.toList->bZ P F (At U (VR F U)) U
   (do
     nR es.isEmpty 10000 kt k
     let (v,o) <-match <-Dc kt k es.toList with
      |some (_,v)=>pure (v,true)
      |none=>pure (<-iW et,false)
     pure (if ok then .tuple #[v,.bool o] else v))
   (do
     nR es'.isEmpty 10000 kt k'
     let (v,o) <-match <-Dc kt k' es'.toList with
      |some (_,v)=>pure (v,true)
      |none=>pure (<-iW et,false)
     pure (if ok then .tuple #[v,.bool o] else v)):=by
  intro es es' hs he;have hem:es'.isEmpty=es.isEmpty:=by simp[Array.isEmpty,hs]
  rw[hem];refine(oy 6 _ kt ht.1 _ _ hk).bH fun _ _=>(yY R ht.1 hk he).dF fun p q hpq=>?_
  have fin:∀ {v v':aj} (b:Bool),VR F U v v'->bZ P F (At U (VR F U)) U (eQ (if ok then .tuple #[v,.bool b] else v)) (eQ (if ok then .tuple #[v',.bool b] else v')):=by
   intro v v' b hv;cases ok
   .exact .dh hv
   exact .dh ((iT.one hv).push (.bool b)).tuple
  rcases hpq with⟨rfl,rfl⟩|⟨i,v,v',rfl,rfl,hv⟩
  .exact(lI ht.2).dF fun v v' hv=>fin false hv
  exact fin true hv
 cases hx<;>first|exact bj|skip
 .exact rest rfl .nil
 .rename_i r r' hr;refine(BS hr).dF fun o o' ho=>?_;cases ho with
  |cells _ _=>exact bj
  |number _ _=>exact bj
  |map hs he=>exact rest hs (Y6 (by simpa using hs) fun i x y h1 h2=>he i x y (by simpa using h1) (by simpa using h2))
end
section
variable{P:aL}{F:Nat->Bool}{α β γ Z:Type}{A:Rn->α->β->Prop}{A':Rn->γ->Z->Prop}{U:Rn}
theorem La{f:aj × aj->Bool}{g:aj × aj->Bool}(h:∀x x' y y',VR F U x x'->VR F U y y'->f (x,y)=g (x',y')){l l':List aj}(hl:Ss F U l l') :
  ∀ {m m':List aj},Ss F U m m'->(l.zip m).all f=(l'.zip m').all g:=by
 induction hl with
 |nil=>intro m m' _;simp
 |cons hx _ ih=>
  intro m m' hm;cases hm with
  |nil=>simp
  |cons hy hm=>simp only[List.zip_cons_cons,dP];rw[h _ _ _ _ hx hy,ih hm]
theorem Nn(R:Vr P U):∀(n:Nat) (x x' y y':aj),VR F U x x'->VR F U y y'->Instr.sameBits n x y=Instr.sameBits n x' y':=by
 intro n
 have hp:∀ {a a' b b':cJ},AR U a a'->AR U b b'->((some a==some b):Bool)=(some a'==some b'):=fun {a a' b b'} ha hb=>by
  have:=ha.eq_iff R.inj hb
  by_cases he:a=b
  .rw[he,this.1 he];simp
  have he':=fun h=>he (this.2 h);rw[beq_eq_false_iff_ne.2 (by simpa using he),beq_eq_false_iff_ne.2 (by simpa using he')]
 induction n with
 |zero=>
  intro x x' y y' hx hy
  cases hx<;>cases hy<;>first
   |rfl
   |(simp only[Instr.sameBits];exact hp ‹_› ‹_›)
 |succ n ih=>
  intro x x' y y' hx hy
  cases hx<;>cases hy<;>first
   |rfl
   |(simp only[Instr.sameBits];exact hp ‹_› ‹_›)
   |(rename_i h1 h2 _ _ h3 h4
     simp only[Instr.sameBits]
     rw[h1,h3,La (F:=F) (U:=U) (f:=fun(x,y)=>Instr.sameBits n x y) (g:=fun(x,y)=>Instr.sameBits n x y) (fun x x' y y' hx hy=>ih x x' y y' hx hy) (iT.list ⟨h1,h2⟩) (iT.list ⟨h3,h4⟩)])
theorem yX(R:Vr P U){x x' y y':aj}(hx:VR F U x x')(hy:VR F U y y'):bZ P F (At U (VR F U)) U (Instr.keyThatStays x y) (Instr.keyThatStays x' y'):=by
 unfold Instr.keyThatStays;rw[<-Nn R _ _ _ _ _ hx hy];split
 .exact .dh hy
 refine vt.bH fun n _=>?_;split
 .exact .dh hy
 exact .dh hx
theorem BQ{r r':Nat}{o o':Obj}(h:U r=some r')(ho:OR F U o o'):bZ P F (At U fun _ _=>True) U (setObj r o) (setObj r' o'):=.setObj h ho (.dh trivial)
def NC(P:aL)(t:aZ):Bool:=match P.underlying t with|some (.map k _)=>po P 6 k|_=>true
theorem DM(R:Vr P U){t:aZ}(ht:NC P t=true){x x' k k' v v':aj}(hx:VR F U x x')(hk:VR F U k k')(hv:VR F U v v') :
  bZ P F (At U fun _ _=>True) U (Av t x k v) (Av t x' k' v'):=by
 unfold Av;refine dc.bH fun ds LC=>?_;cases ds<;>first|exact bj|skip
 rename_i kt et;simp only[NC,LC] at ht;dsimp only;cases hx<;>first|exact bj|exact gw|skip
 rename_i r r' hr;dsimp only;refine(BS hr).dF fun o o' ho=>?_;cases ho with
 |cells _ _=>exact bj
 |number _ _=>exact bj
 |@map es es' clk hs he=>
  dsimp only;have hel:EL F U es.toList es'.toList:=Y6 (by simpa using hs) fun i x y h1 h2=>he i x y (by simpa using h1) (by simpa using h2);refine(oy 6 _ kt ht _ _ hk).bH fun _ _=>(yY R ht hk hel).dF fun p q hpq=>?_;rcases hpq with⟨rfl,rfl⟩|⟨i,w,w',rfl,rfl,hw⟩
  .refine BQ hr (.map (by simp[hs]) fun i x y h1 h2=>?_);rw[lD] at h1 h2;rw[<-hs] at h2;split at h1
   .rename_i hi;simp only[hi,if_true] at h2;cases h1;cases h2;exact⟨hk,hv,rfl⟩
   rename_i hi;simp only[hi,if_false] at h2;exact he _ _ _ h1 h2
  dsimp only
  have rE:VR F U (((es[i]?).map (·.key)).getD k) (((es'[i]?).map (·.key)).getD k'):=by
   cases hx:es[i]? with
   |none=>
    have:es'[i]?=none:=by
     rw[Array.getElem?_eq_none_iff] at hx ⊢;omega
    rw[this];exact hk
   |some x=>
    have hi:i<es.size:=(ah.1 hx).1;have hi':i<es'.size:=hs▸hi;rw[aO hi'];exact(he i x _ hx (aO hi')).key
  refine(yX R rE hk).dF fun key alY hkey=>?_;refine BQ hr (.map (by simp[hs]) fun j x y h1 h2=>?_);rw[pz] at h1 h2
  by_cases hj:i=j
  .subst hj;simp only[if_true] at h1 h2;cases hx:es[i]? with
   |none=>rw[hx] at h1;cases h1
   |some x0=>
    cases hy:es'[i]? with
    |none=>rw[hy] at h2;cases h2
    |some y0=>
     rw[hx] at h1;rw[hy] at h2;cases h1;cases h2;exact⟨hkey,hv,(he _ _ _ hx hy).born⟩
  simp only[hj,if_false] at h1 h2;exact he _ _ _ h1 h2
theorem IJ{t:aZ}:bZ P F (VR F) U (Instr.makeMap t none) (Instr.makeMap t none):=by
 unfold Instr.makeMap;exact bZ.bind (A:=fun U' r r'=>U' r=some r') (.new (.map rfl fun i x y h=>by simp at h) fun U' r r' _ hr=>.pure hr) fun U' r r' _ hr=>.pure (.map hr)
theorem ox{v v':aj}(h:VR F U v v'):bZ P F (At U (AR U)) U (Instr.sureAddr v) (Instr.sureAddr v'):=by
 cases h<;>first|exact bj|exact .dh ‹_›
theorem KD{t:aZ}{v v':aj}(h:VR F U v v'):bZ P F (At U (VR F U)) U (mG t v) (mG t v'):=by
 unfold mG;exact(ox h).dF fun a a' ha=>yV ha
theorem IG{t:aZ}{v v' x x':aj}(h:VR F U v v')(hx:VR F U x x'):bZ P F (At U fun _ _=>True) U (Instr.storeAt t v x) (Instr.storeAt t v' x'):=by
 unfold Instr.storeAt;exact(ox h).dF fun a a' ha=>Ga ha hx
def I_(P:aL)(s:aZ)(f:Nat):Bool:=match P.underlying s with
 |some (.struct fs)=>(match fs[f]? with|some fl=>(match P.info? fl.type with|some i=>i.size !=0|none=>true)|none=>true)
 |_=>true
theorem IP{s:aZ}{f:Nat}(hf:I_ P s f=true){v v':aj}(h:VR F U v v'):bZ P F (At U (VR F U)) U (Instr.fieldAt s v f) (Instr.fieldAt s v' f):=by
 unfold Instr.fieldAt;refine dc.bH fun ds LC=>?_;cases ds<;>first|exact bj|skip
 rename_i fs;simp only[I_,LC] at hf;dsimp only;cases hfl:fs[f]? with
 |none=>exact bj
 |some fl=>
  rw[hfl] at hf;simp only at hf ⊢;refine(ox h).dF fun a a' ha=>?_;unfold fieldPlace;refine bZ.dF (Q:=AR U) (gR.bH fun n hn=>?_) fun b b' hb=>.dh (.ptr hb);obtain⟨i,hi,rfl⟩:=hn;rw[hi] at hf;have hne:¬i.size=0:=by simpa using hf
  simp only[hne,if_false];exact .dh (ha.add _)
theorem IL{t:aZ}{v v' i i':aj}(h:VR F U v v')(hi:VR F U i i'):bZ P F (At U (VR F U)) U (gg t v i) (gg t v' i'):=by
 unfold gg;refine(tR hi).bH fun x hx=>?_;obtain⟨k,n⟩:=x;dsimp only
 have rest:∀ {b b':Option cJ} (len:Nat) (e:aZ),VR F U (.pointer b) (.pointer b')->bZ P F (At U (VR F U)) U
   (do
     let tiny:=len<=1&&(match <-iZ t with|.array ..=>true|_=>false)
     match b with
     |some a=>
      if 0<=n/\n<len then pure (.pointer (some (a.add (n.toNat*(<-sizeOf e)))))
      else if tiny then rf (.noEntry "op/indexAddr.an index out of range at an array of length 0 or 1 (ledger 616)")
      else boundsPanic k n len .index
     |none=>boundsPanic k n 0 .index)
   (do
     let tiny:=len<=1&&(match <-iZ t with|.array ..=>true|_=>false)
     match b' with
     |some a=>
      if 0<=n/\n<len then pure (.pointer (some (a.add (n.toNat*(<-sizeOf e)))))
      else if tiny then rf (.noEntry "op/indexAddr.an index out of range at an array of length 0 or 1 (ledger 616)")
      else boundsPanic k n len .index
     |none=>boundsPanic k n 0 .index):=by
  intro b b' len e hb;refine dc.bH fun ds _=>?_;cases hb with
  |CQ=>exact lX
  |ptr ha=>
   dsimp only;split
   .exact gR.bH fun m _=>.dh (.ptr (ha.add _))
   generalize (decide (len<=1)&&_:Bool)=tiny;cases tiny
   .exact lX
   exact cD sN
 refine dc.bH fun ds LC=>?_;cases ds with
 |array len e=>exact(ox h).dF fun a a' ha=>rest len e (.ptr ha)
 |slice e=>
  cases h<;>first|exact bj|skip
  .rename_i l c;exact rest l e .CQ
  exact rest _ e (.ptr ‹_›)
 |_=>cases h<;>exact bj
theorem Ng{t:aZ}{v v' i i':aj}(h:VR F U v v')(hi:VR F U i i'):bZ P F (At U (VR F U)) U (m6 t v i) (m6 t v' i'):=by
 unfold m6;refine(tR hi).bH fun x hx=>?_;obtain⟨k,n⟩:=x;dsimp only;refine dc.bH fun ds LC=>?_;cases ds with
 |string=>
  cases h<;>first|exact bj|skip
  dsimp only;generalize (if 0<=n then _ else _:Option UInt8)=o;cases o with
  |none=>exact lX
  |some b=>exact .dh (.int _ _)
 |array len e=>
  cases h<;>first|exact bj|skip
  rename_i hs hv;dsimp only;split
  .exact gR.bH fun m _=>n9 ⟨hs,hv⟩ _
  exact lX
 |_=>cases h<;>exact bj
theorem IQ{v v':aj}(h:VR F U v v')(i:Nat):bZ P F (At U (VR F U)) U (Instr.extract v i) (Instr.extract v' i):=by
 unfold Instr.extract;cases h<;>first|exact bj|skip
 rename_i hs hv;have ha:iT F U _ _:=⟨hs,hv⟩
 dsimp only;split
 .rename_i x hx;obtain⟨y,hy,hvy⟩:=ha.get hx;rw[hy];exact .dh hvy
 exact bj
theorem Nk{e:aZ}(h:oF P e=true):bZ P F (VR F) U (Instr.alloc e true (.tuple #[])) (Instr.alloc e true (.tuple #[])):=by
 unfold Instr.alloc;exact(lI h).dF fun v v' hv=>bZ.bind (BR hv) fun U' a a' _ ha=>.pure (.ptr ha)
theorem Tj{e:aZ}{v v':aj}(h:VR F U v v'):bZ P F (VR F) U (Instr.box e v) (Instr.box e v'):=by
 unfold Instr.box;exact bZ.bind (BR h) fun U' a a' _ ha=>.pure (.ptr ha)
end
section
variable{P:aL}{F:Nat->Bool}{α β γ Z:Type}{A:Rn->α->β->Prop}{A':Rn->γ->Z->Prop}{U:Rn}
inductive PL(F:Nat->Bool)(U:Rn):List (Nat × aj)->List (Nat × aj)->Prop
 |nil:PL F U [] []
 |cons {i:Nat} {x y:aj} {l m:List (Nat × aj)}:VR F U x y->PL F U l m->PL F U ((i,x)::l) ((i,y)::m)
theorem LS{off:Nat}{l m:List aj}(h:Ss F U l m):∀(j:Nat) {cs cs':Array aj},iT F U cs cs'->
  iT F U ((l.zipIdx j).foldl (fun cs (c,j)=>cs.setIfInBounds (off+j) c) cs) ((m.zipIdx j).foldl (fun cs (c,j)=>cs.setIfInBounds (off+j) c) cs'):=by
 induction h with
 |nil=>intro j cs cs' hc;exact hc
 |cons hx _ ih=>intro j cs cs' hc;simp only[List.zipIdx_cons,List.foldl_cons];exact ih (j+1) (hc.set hx _)
theorem Og{place:Nat->Option (Nat × Nat)}{l m:List (Nat × aj)}(h:PL F U l m):∀ {cs cs':Array aj},iT F U cs cs'->
  (Instr.fill place cs l=none/\Instr.fill place cs' m=none)\/∃x y,Instr.fill place cs l=some x/\Instr.fill place cs' m=some y/\iT F U x y:=by
 induction h with
 |nil=>intro cs cs' hc;exact .inr ⟨cs,cs',rfl,rfl,hc⟩
 |@cons i x y l m hx _ ih=>
  intro cs cs' hc;simp only[Instr.fill];cases place i with
  |none=>exact .inl ⟨rfl,rfl⟩
  |some p=>
   obtain⟨off,size⟩:=p;simp only[<-hx.cells.size,<-hc.size];split
   .exact .inl ⟨rfl,rfl⟩
   have:=LS (off:=off) hx.cells.list 0 hc;refine ih ?_;simpa only[<-Array.foldl_toList,Array.toList_zipIdx] using this
theorem DN{ι κ:Type}{f:ι->iN κ}(hf:∀a,bZ P F (Same U fun _=>True) U (f a) (f a))(l:Array ι):bZ P F (Same U fun _=>True) U (l.mapM f) (l.mapM f):=by
 rw[o9]
 have:∀l:List ι,bZ P F (Same U fun _=>True) U (l.mapM f) (l.mapM f):=by
  intro l;rw[<-List.mapM'_eq_mapM]
  induction l with
  |nil=>exact cN
  |cons a l ih=>exact(hf a).bH fun _ _=>ih.bH fun _ _=>cN
 exact(this l.toList).bH fun _ _=>cN
theorem Nh{t:aZ}(ht:oF P t=true){l m:Array (Nat × aj)}(h:PL F U l.toList m.toList):bZ P F (At U (VR F U)) U (Instr.build t l) (Instr.build t m):=by
 unfold Instr.build;refine(lI ht).dF fun z z' hz=>?_;dsimp only;refine dc.bH fun ds _=>?_;cases ds with
 |struct fs=>
  refine(DN (fun f=>gR.bH fun n _=>cN) fs).bH fun places _=>?_;rcases Og (place:=(places[·]?)) h hz.cells with⟨h1,h2⟩|⟨x,y,h1,h2,h3⟩
  .simp only[h1];exact bj
  simp only[h1,h2];exact .dh h3.agg
 |array n e=>
  refine gR.bH fun n _=>?_;rcases Og (place:=fun i=>some (i*n,n)) h hz.cells with⟨h1,h2⟩|⟨x,y,h1,h2,h3⟩
  .simp only[h1];exact bj
  simp only[h1,h2];exact .dh h3.agg
 |_=>exact bj
def zl(P:aL)(t:aZ):Bool:=match P.underlying t with|some (.slice e)=>oF P e|_=>true
theorem U9:VR F U (default:aj) (default:aj):=zI (by rfl)
theorem iT.ahW{a a':Array aj}(h:iT F U a a')(i:Nat):VR F U a[i]! a'[i]!:=by
 rw[Array.getElem!_eq_getD,Array.getElem!_eq_getD];exact h.getD U9 i
theorem Ik{a a':Array aj}(h:iT F U a a')(n:Nat):iT F U ((Array.range n).map (a[· % a.size]!)) ((Array.range n).map (a'[· % a'.size]!)):=by
 refine iT.map fun i _=>?_;rw[<-h.size];exact h.ahW _
theorem CP{t:aZ}(ht:zl P t=true){n:Nat}{l m:Array (Nat × aj)}(h:PL F U l.toList m.toList):bZ P F (VR F) U (Instr.buildSlice t n l) (Instr.buildSlice t n m):=by
 unfold Instr.buildSlice;refine dc.bH fun ds LC=>?_;cases ds<;>first|exact bj|skip
 rename_i e;simp only[zl,LC] at ht;refine gR.bH fun size _=>?_;dsimp only;split
 .exact .dead ((fA sN).bind _)
 have rest:∀ {z z':Array aj},iT F U z z'->bZ P F (VR F) U
   (do
     let some cells:=Instr.fill (fun i=>some (i*size,size)) ((Array.range (n*size)).map (z[· % z.size]!)) l.toList|stuck "buildSlice: a part of the wrong size"
     pure (.slice (some (<-newRow e cells)) n n))
   (do
     let some cells:=Instr.fill (fun i=>some (i*size,size)) ((Array.range (n*size)).map (z'[· % z'.size]!)) m.toList|stuck "buildSlice: a part of the wrong size"
     pure (.slice (some (<-newRow e cells)) n n)):=by
  intro z z' hz;rcases Og (place:=fun i=>some (i*size,size)) h (Ik hz (n*size)) with⟨h1,h2⟩|⟨x,y,h1,h2,h3⟩
  .simp only[h1];exact bj
  simp only[h1,h2];exact bZ.bind (vo h3) fun U' a a' _ ha=>.pure (.slice _ _ ha)
 split
 .exact rest .nil
 exact(lI ht).dF fun v v' hv=>rest hv.cells
def TH(P:aL)(ts:Array aZ):Bool:=match ts[0]? with|some t=>(match P.underlying t with|some (.slice _)|some (.array ..)|some .string=>true|_=>false)|none=>true
theorem Ti{ts:Array aZ}(ht:TH P ts=true){t:aZ}{l m:Array aj}(h:iT F U l m):bZ P F (At U (VR F U)) U (Builtin.len_ ts t l) (Builtin.len_ ts t m):=by
 unfold Builtin.len_;unfold TH at ht;cases hx:l[0]? with
 |none=>cases ts[0]?<;>exact bj
 |some x=>
  obtain⟨y,hy,hv⟩:=h.get hx;rw[hy];cases h0:ts[0]? with
  |none=>exact bj
  |some t0=>
   rw[h0] at ht;dsimp only at ht ⊢;refine dc.bH fun ds LC=>?_;rw[LC] at ht;cases ds<;>first|(cases ht;done)|skip
   all_goals (cases hv<;>first|exact bj|exact .dh (VR.int _ _))
theorem Qz{x x' y y':aj}(hx:VR F U x x')(hy:VR F U y y'):bZ P F (At U (VR F U)) U (Builtin.max2 x y) (Builtin.max2 x' y'):=by
 cases hx<;>cases hy<;>first
  |exact bj
  |exact cD sN
  |exact .dh (.int _ _)
  |exact .dh (.string _)
theorem Qy{x x' y y':aj}(hx:VR F U x x')(hy:VR F U y y'):bZ P F (At U (VR F U)) U (Builtin.min2 x y) (Builtin.min2 x' y'):=by
 cases hx<;>cases hy<;>first
  |exact bj
  |exact cD sN
  |exact .dh (.int _ _)
  |exact .dh (.string _)
theorem BU{f:aj->aj->iN aj}(hf:∀ {x x' y y'},VR F U x x'->VR F U y y'->bZ P F (At U (VR F U)) U (f x y) (f x' y')){l m:List aj}(h:Ss F U l m) :
  ∀ {x x':aj},VR F U x x'->bZ P F (At U (VR F U)) U (l.foldlM f x) (m.foldlM f x'):=by
 induction h with
 |nil=>intro x x' hx;exact .dh hx
 |cons hy _ ih=>intro x x' hx;simp only[List.foldlM_cons];exact(hf hx hy).dF fun z z' hz=>ih hz
theorem Tg{ts:Array aZ}{t:aZ}{l m:Array aj}(h:iT F U l m):bZ P F (At U (VR F U)) U (Builtin.max_ ts t l) (Builtin.max_ ts t m):=by
 unfold Builtin.max_;have hl:=h.list;generalize l.toList=l' at hl ⊢;generalize m.toList=m' at hl ⊢;cases hl with
 |nil=>exact bj
 |cons hx hl=>exact BU Qz hl hx
theorem Tf{ts:Array aZ}{t:aZ}{l m:Array aj}(h:iT F U l m):bZ P F (At U (VR F U)) U (Builtin.min_ ts t l) (Builtin.min_ ts t m):=by
 unfold Builtin.min_;have hl:=h.list;generalize l.toList=l' at hl ⊢;generalize m.toList=m' at hl ⊢;cases hl with
 |nil=>exact bj
 |cons hx hl=>exact BU Qy hl hx
end
section
variable{P:aL}{F:Nat->Bool}{α β γ Z:Type}{A:Rn->α->β->Prop}{A':Rn->γ->Z->Prop}{U:Rn}
def ov(P:aL)(s:iN α):Prop:=∀w es,(∃a w' es',s.runT P w es=(.ok a w',es'))\/∃h w' es',s.runT P w es=(.halt h w',es')/\FU h
theorem ov.Fa{s:iN α}{f:α->iN γ}(h:ov P s)(hf:∀a,qQ P (f a)):qQ P (s >>= f):=fun w es=>by
 show ∃h w' es',(s.bind f).runT P w es=_/\_;rw[GV];rcases h w es with⟨a,w',es',h1⟩|⟨e,w',es',h1,h2⟩
 .rw[h1];exact hf a w' es'
 rw[h1];exact⟨e,w',es',rfl,h2⟩
theorem ov.bind{s:iN α}{f:α->iN γ}(h:ov P s)(hf:∀a,ov P (f a)):ov P (s >>= f):=fun w es=>by
 show(∃a w' es',(s.bind f).runT P w es=_)\/∃h w' es',(s.bind f).runT P w es=_/\_;rw[GV];rcases h w es with⟨a,w',es',h1⟩|⟨e,w',es',h1,h2⟩
 .rw[h1];exact hf a w' es'
 rw[h1];exact .inr ⟨e,w',es',rfl,h2⟩
theorem nj{a:α}:ov P (eQ a:iN α):=fun w es=>.inl ⟨a,w,es,rfl⟩
theorem JP{r:Nat}:ov P (shape r):=fun w es=>.inl ⟨_,w,es,rfl⟩
theorem Gy{a:cJ}:ov P (frozen a):=fun w es=>.inl ⟨_,w,es,rfl⟩
theorem zY{a:cJ}{n:Nat}:ov P (Builtin.holdsCells a n):=by
 unfold Builtin.holdsCells;refine JP.bind fun s=>?_;cases s<;>exact nj
theorem C0{size pg n:Nat}{b:Option cJ}{x:aj}:ov P (pW size pg n b x):=by
 unfold pW
 have rest:∀there:Bool,ov P (if (!there)=true then(pure true:iN Bool) else match x with
   |.slice (some c) _ _=>do pure (!(<-Builtin.holdsCells c (n*size))||b.any (·.block==c.block))
   |_=>pure false):=by
  intro there;split
  .exact nj
  split
  .exact zY.bind fun _=>nj
  exact nj
 cases b with
 |none=>exact nj.bind rest
 |some a=>exact zY.bind fun _=>Gy.bind fun _=>nj.bind rest
theorem Nf{x x':aj}(h:VR F U x x'):bZ P F (Same U fun _=>True) U (Builtin.lenOf x) (Builtin.lenOf x'):=by
 cases h<;>first|exact bj|exact cN
theorem o_{x x':aj}(h:VR F U x x')(size n:Nat):bZ P F (At U (iT F U)) U (eY size n x) (eY size n x'):=by
 cases h<;>first|exact bj|exact .dh .nil|exact vp ‹_› _|exact .dh (iT.map fun _ _=>.int _ _)
theorem Kh{z z':Array aj}(h:iT F U z z')(n:Nat):iT F U (fO z n) (fO z' n):=by
 unfold fO;rw[<-h.size];have:=Ik h (n*z.size);rw[<-h.size] at this;exact this
theorem IU{n:Nat}:bZ P F (At U fun _ _=>True) U (askRoom n) (askRoom n):=by
 unfold askRoom;split
 .exact .noRoom (.dh trivial)
 exact .dh trivial
def okZ(P:aL)(t?:Option aZ):Bool:=match t? with|some t=>(match P.underlying t with|some (.int _)=>false|_=>true)|none=>true
def TI(P:aL)(ts:Array aZ):Bool:=
 (match ts[0]? with|some t=>zl P t|none=>true)&&okZ P ts[1]?
theorem Nc{t?:Option aZ}(ht:okZ P t?=true){J J':Bool->iN aj}(h:bZ P F (VR F) U (J false) (J' false)) :
  bZ P F (VR F) U (match (generalizing:=false) t? with|some t=>iZ t >>= fun d=>(eQ (match d with|.int _=>true|_=>false):iN Bool) >>= J|none=>(eQ false:iN Bool) >>= J)
   (match (generalizing:=false) t? with|some t=>iZ t >>= fun d=>(eQ (match d with|.int _=>true|_=>false):iN Bool) >>= J'|none=>(eQ false:iN Bool) >>= J'):=by
 cases t? with
 |none=>exact h
 |some t1=>
  refine dc.bH fun d1 hd1=>?_;simp only[okZ,hd1] at ht;cases d1<;>first|(cases ht;done)|exact h
theorem KJ{ts:Array aZ}(ht:TI P ts=true){t:aZ}{l m:Array aj}(h:iT F U l m):bZ P F (VR F) U (kz ts t l) (kz ts t m):=by
 unfold kz;simp only[TI,aF] at ht;obtain⟨Js,sw⟩:=ht;cases hx:l[0]? with
 |none=>cases ts[0]?<;>exact bj
 |some s=>
  obtain⟨s',hs',hsv⟩:=h.get hx;rw[hs'];cases h0:ts[0]? with
  |none=>exact bj
  |some t0=>
   cases hx1:l[1]? with
   |none=>exact bj
   |some x=>
    obtain⟨x',hx',hxv⟩:=h.get hx1;rw[hx'];rw[h0] at Js;simp only at Js;dsimp only;refine dc.bH fun ds LC=>?_;cases ds<;>first|exact bj|skip
    rename_i e;simp only[zl,LC] at Js;dsimp only
    have main:∀ {b b':Option cJ} (sl sc:Nat),VR F U (.slice b sl sc) (.slice b' sl sc)->bZ P F (VR F) U
      (do
        let size <-sizeOf e
        let zeros <-match ts[1]? with
         |some xType=>do pure ((<-iZ xType) matches .int _)
         |none=>pure false
        let n <-if zeros then do
          let l:=IntKind.i64.wrap (<-asInt x)
          if l<0 then eu (.error "makeslice: len out of range")
          if l*(<-mf e).bytes>2 ^ 48 then
           let made <-Am (.extern "append.ofMake.carriedOut" 2)
           eu (.error (if made==1 then "makeslice: len out of range" else "growslice: len out of range"))
          pure l.toNat
         else Builtin.lenOf x
        let appended:iN (Array aj):=
         if !zeros then eY size n x
         else if n*size=0 then pure #[]
         else do pure (fO (<-iW e).cells n)
        let need:=sl+n
        if need<=sc then
         let new <-appended
         if let some a:=b then storeCells (a.add (sl*size)) new.toList
         pure (.slice b need sc)
        else
         if (need:Int)>IntKind.i64.max/\(zeros\/(<-mf e).bytes=0) then eu (.error "growslice: len out of range")
         if Builtin.nextslicecap need sc*(<-mf e).bytes>2 ^ 48 then(if zeros then eu (.error "growslice: len out of range") else do
          if !(<-pW size sl n b x) then mark .noRoom
          rf (.resourceLimit "append: a slice or a string whose bytes no memory bears"))
         let mV <-Am (.appendCap need sc e)
         askRoom (mV*(<-mf e).bytes)
         let old <-eY size sl (.slice b sl sc);let new <-appended;let rest:=fO (<-iW e).cells (mV-need)
         pure (.slice (some (<-newRow e (old++new++rest))) need mV))
      (do
        let size <-sizeOf e
        let zeros <-match ts[1]? with
         |some xType=>do pure ((<-iZ xType) matches .int _)
         |none=>pure false
        let n <-if zeros then do
          let l:=IntKind.i64.wrap (<-asInt x')
          if l<0 then eu (.error "makeslice: len out of range")
          if l*(<-mf e).bytes>2 ^ 48 then
           let made <-Am (.extern "append.ofMake.carriedOut" 2)
           eu (.error (if made==1 then "makeslice: len out of range" else "growslice: len out of range"))
          pure l.toNat
         else Builtin.lenOf x'
        let appended:iN (Array aj):=
         if !zeros then eY size n x'
         else if n*size=0 then pure #[]
         else do pure (fO (<-iW e).cells n)
        let need:=sl+n
        if need<=sc then
         let new <-appended
         if let some a:=b' then storeCells (a.add (sl*size)) new.toList
         pure (.slice b' need sc)
        else
         if (need:Int)>IntKind.i64.max/\(zeros\/(<-mf e).bytes=0) then eu (.error "growslice: len out of range")
         if Builtin.nextslicecap need sc*(<-mf e).bytes>2 ^ 48 then(if zeros then eu (.error "growslice: len out of range") else do
          if !(<-pW size sl n b' x') then mark .noRoom
          rf (.resourceLimit "append: a slice or a string whose bytes no memory bears"))
         let mV <-Am (.appendCap need sc e)
         askRoom (mV*(<-mf e).bytes)
         let old <-eY size sl (.slice b' sl sc);let new <-appended;let rest:=fO (<-iW e).cells (mV-need)
         pure (.slice (some (<-newRow e (old++new++rest))) need mV)):=by
     intro b b' sl sc hb;refine gR.bH fun size _=>?_;refine Nc sw ?_;simp only[bE,if_false,false_or,Bool.not_false,if_true];refine(Nf hxv).bH fun n _=>?_;split
     .refine(o_ hxv size n).dF fun new agb hn=>?_;cases hb with
      |Er=>exact .pure (.Er _ _)
      |slice _ _ ha=>exact(ux (ha.add _) hn.list 0).dF fun _ _ _=>.pure (.slice _ _ ha)
     refine jx.bH fun i _=>?_;split
     .exact .dead ((pD sN sN).bind _)
     refine jx.bH fun i _=>?_;split
     .refine .dead ?_;refine qQ.bind (C0.Fa fun a=>?_) _;cases a
      .exact ov.Fa (s:=mark .noRoom) (fun w es=>.inl ⟨(),w,_,rfl⟩) fun _=>fA sN
      exact fA sN
     refine vt.bH fun cap _=>jx.bH fun i _=>IU.dF fun _ _ _=>?_;refine(o_ hb size sl).dF fun old alS ho=>(o_ hxv size n).dF fun new agb hn=>?_;refine(lI Js).dF fun z z' hz=>?_;exact bZ.bind (vo ((ho.append hn).append (Kh hz.cells _))) fun U' a a' _ ha=>.pure (.slice _ _ ha)
    cases hsv with
    |Er sl sc=>exact main sl sc (.Er _ _)
    |slice sl sc ha=>exact main sl sc (.slice _ _ ha)
    |_=>exact bj
inductive NR(F:Nat->Bool)(U:Rn):Next->Next->Prop
 |value {v v':aj}:VR F U v v'->NR F U (.value v) (.value v')
 |skip:NR F U .skip .skip
 |enter {f:dU} {l m:Array aj}:F f=true->iT F U l m->NR F U (.enter f l) (.enter f m)
 |send {ch v:aj} {n:Next}:NR F U (.comm #[{ chan:=ch,send:=some v,zero:=.tuple #[] }] true .send) n
theorem n4{s s':iN aj}(h:bZ P F (VR F) U s s'):bZ P F (NR F) U (do pure (.value (<-s))) (do pure (.value (<-s'))):=h.bind fun U' v v' _ hv=>.pure (.value hv)
theorem ig{s s':iN aj}(h:bZ P F (At U (VR F U)) U s s'):bZ P F (NR F) U (do pure (.value (<-s))) (do pure (.value (<-s'))):=h.dF fun v v' hv=>.pure (.value hv)
theorem BP{s s':iN Unit}(h:bZ P F (At U fun _ _=>True) U s s'):bZ P F (NR F) U (do s;pure .skip) (do s';pure .skip):=h.dF fun _ _ _=>.pure .skip
def VI(P:aL)(F:Nat->Bool):Prop:=∀f,F f=true->∃fn,P.funcs[f]?=some fn/\fn.body.isSome=true/\(fn.name == "runtime.NumGoroutine")=false
theorem Ge(hF:VI P F){f:dU}(hf:F f=true){l m:Array aj}(h:iT F U l m):bZ P F (NR F) U (callFunc f l) (callFunc f m):=by
 obtain⟨fn,h1,h2,h3⟩:=hF f hf;unfold callFunc;refine kD ?_;have h4:fn.body.isNone=false:=by cases hb:fn.body<;>simp_all
 simp only[h1,h3,h4,bE,if_false];exact .pure (.enter hf h)
def AG(F:Nat->Bool):bI->Bool
 |.tmp _=>true
 |.const v=>E5 v
 |.global _=>false
 |.func f=>F f
def okB(P:aL)(ts:Array aZ):Builtin->Bool
 |.append=>TI P ts
 |.len=>TH P ts
 |.max|.min=>true
 |_=>false
def isInt:bI->Bool
 |.const (.int _ _)=>true
 |_=>false
def adi(P:aL)(t:aZ):Bool:=P.underlying t matches some (.int _)
def WO(P:aL)(F:Nat->Bool)(op:Op):Bool:=op.operands.all (AG F)&&match op with
 |.move _|.assign _|.pick ..|.box ..|.load ..|.store ..|.indexAddr ..|.index ..|.extract ..|.send ..=>true
 |.alloc e=>oF P e
 |.build t _=>oF P t
 |.buildSlice t _ _=>zl P t
 |.binOp op t _ y _=>adi P t&&(Yx op||((op matches .eql | .neq)&&isInt y))
 |.makeFunc (.func f) _ _=>F f
 |.makeMap _ none=>true
 |.fieldAddr s _ f=>I_ P s f
 |.lookup t _ _ _=>TG P t
 |.mapUpdate t _ _ _=>NC P t
 |.call c=>(match c.callee with|.builtin b=>okB P c.argTypes b|.value _=>true|.invoke ..=>false)
 |_=>false
theorem kq{fr fr':bT}(h:iT F U fr.tmps fr'.tmps){x:bI}(hx:AG F x=true):VR F U (fr.eval x) (fr'.eval x):=by
 cases x with
 |tmp t=>exact h.getD tO t
 |const v=>exact zI hx
 |global g=>cases hx
 |func f=>exact .func hx rfl (fun i x y h=>by simp at h) rfl (fun i x y h=>by simp at h)
theorem ZO{fr fr':bT}(h:iT F U fr.tmps fr'.tmps){l:Array bI}(hl:l.all (AG F)=true):iT F U (l.map fr.eval) (l.map fr'.eval):=
 iT.map fun x hx=>kq h (ko.1 hl x hx)
theorem Nz{fr fr':bT}(h:iT F U fr.tmps fr'.tmps):∀ {l:List (Nat × bI)},(l.all fun p=>AG F p.2)=true->
  PL F U (l.map fun(i,x)=>(i,fr.eval x)) (l.map fun(i,x)=>(i,fr'.eval x))
 |[],_=>.nil
 |(i,x)::l,hl=>by
  simp only[dP,aF] at hl;exact .cons (kq h hl.1) (Nz h hl.2)
theorem KG(hF:VI P F)(R:Vr P U){fr fr':bT}(h:iT F U fr.tmps fr'.tmps){o:Oper}(ho:WO P F o.op=true):bZ P F (NR F) U (cu fr.eval o) (cu fr'.eval o):=by
 unfold WO at ho;rw[aF] at ho;obtain⟨h1,h2⟩:=ho;unfold cu;obtain⟨dst,op,type,pos,after,guard⟩:=o;dsimp only at h1 h2 ⊢;cases op<;>first|(cases h2;done)|skip
 all_goals simp only[Op.operands,List.all_toArray,dP,List.all_nil,Bool.and_true,aF] at h1
 case move x=>exact .pure (.value (kq h h1))
 case assign x=>exact .pure (.value (kq h h1))
 case pick c a b=>
  refine bZ.bH (C:=fun _=>True) (s:=asBool (fr.eval c)) (s':=asBool (fr'.eval c)) ?_ fun t _=>?_
  .have hc:=kq h h1.1;revert hc;generalize fr.eval c=v;generalize fr'.eval c=v';intro hc;cases hc<;>first|exact bj|exact cN
  cases t
  .exact bZ.pure (NR.value (kq h h1.2.2))
  exact bZ.pure (NR.value (kq h h1.2.1))
 case alloc e=>exact n4 (Nk h2)
 case box e x=>exact n4 (Tj (kq h h1))
 case build t ps=>
  refine ig (Nh h2 ?_);simp only[vW];exact Nz h (by simpa [List.all_map,Function.comp_def] using h1)
 case buildSlice t n ps=>
  refine n4 (CP h2 ?_);simp only[vW];exact Nz h (by simpa [List.all_map,Function.comp_def] using h1)
 case load t a=>exact ig (KD (kq h h1))
 case store t a v=>exact BP (IG (kq h h1.1) (kq h h1.2))
 case binOp op t x y yt=>
  simp only[aF,Bool.or_eq_true] at h2;have hx:=kq h h1.1;have hy:=kq h h1.2
  have ht:∃k,P.underlying t=some (.int k):=by
   have:=h2.1;unfold adi at this;split at this
   .exact⟨_,‹_›⟩
   cases this
  obtain⟨k,ht⟩:=ht;refine n4 ?_;rcases h2.2 with hop|⟨hop,hint⟩
  .have e:∀a b,eqGuard op t x y a b=eQ ():=fun a b=>by cases op<;>first|rfl|cases hop
   rw[e,e];exact Ni R ht hop hx hy
  have hyi:∃k n,y=.const (.int k n):=by
   unfold isInt at hint;split at hint
   .exact⟨_,_,rfl⟩
   cases hint
  obtain⟨ky,ny,rfl⟩:=hyi;have hy1:fr.eval (.const (.int ky ny))=.int ky ny:=rfl;have hy2:fr'.eval (.const (.int ky ny))=.int ky ny:=rfl;rw[hy1,hy2] at *
  have e:∀a,eqGuard op t x (.const (.int ky ny)) a (.int ky ny)=eQ ():=fun a=>by
   have aad:op=.eql\/op=.neq:=by cases op<;>first|exact .inl rfl|exact .inr rfl|cases hop
   rcases aad with rfl|rfl<;>cases a<;>rfl
  rw[e,e];show bZ P F (VR F) U (binOp op t (fr.eval x) (.int ky ny)) (binOp op t (fr'.eval x) (.int ky ny));generalize fr.eval x=v at hx ⊢;generalize fr'.eval x=v' at hx ⊢;have hpl:po P 1 t=true:=by simp only[po,ht]
  have heq:=pH R 1 Op.maxDepth t hpl v v' _ _ hx (.int (F:=F) (U:=U) ky ny);have aad:op=.eql\/op=.neq:=by cases op<;>first|exact .inl rfl|exact .inr rfl|cases hop
  rcases aad with rfl|rfl
  .cases hx<;>first
    |exact vq
    |exact heq.bH fun b _=>.pure (.bool _)
  cases hx<;>first
   |exact vq
   |exact heq.bH fun b _=>.pure (.bool _)
 case makeFunc fn fs cs=>
  cases fn<;>first|(cases h2;done)|skip
  rename_i f;simp only[Array.all_append,aF] at h1;have e1:=ZO h h1.1;have e2:=ZO h h1.2;exact .pure (NR.value (.func h2 e1.size e1.at_ e2.size e2.at_))
 case makeMap t r=>
  cases r<;>first|(cases h2;done)|skip
  exact n4 IJ
 case fieldAddr s x f=>exact ig (IP h2 (kq h h1))
 case indexAddr t x i=>exact ig (IL (kq h h1.1) (kq h h1.2))
 case index t x i=>exact ig (Ng (kq h h1.1) (kq h h1.2))
 case lookup t x i ok=>exact ig (KC R h2 (kq h h1.1) (kq h h1.2) ok)
 case mapUpdate t m k v=>exact BP (DM R h2 (kq h h1.1) (kq h h1.2.1) (kq h h1.2.2))
 case send ch x=>exact bZ.pure NR.send
 case extract x i=>exact ig (IQ (kq h h1) i)
 case call c=>
  obtain⟨callee,args,ats⟩:=c;simp only[Call.operands,Array.all_append,aF] at h1;have ha:=ZO h h1.2;dsimp only at h2;cases callee<;>first|(cases h2;done)|skip
  case builtin b=>
   cases b<;>first|(cases h2;done)|skip
   .exact n4 (KJ h2 ha)
   .exact ig (Ti h2 ha)
   .exact ig (Tg ha)
   exact ig (Tf ha)
  case value f=>
   have hf:=kq h (x:=f) (by simpa using h1.1);unfold resolve;dsimp only;revert hf;generalize fr.eval f=v;generalize fr'.eval f=v';intro hf;cases hf<;>first|exact bj|exact gw (e:=.nilDeref)|skip
   rename_i f fs fs' cs cs' hFf h3 h4 h5 h6;exact Ge hF hFf (((iT.mk h3 h4).append ha).append ⟨h5,h6⟩)
end
def Pq(P:aL)(F:Nat->Bool)(o:Oper):Bool:=WO P F o.op
def iG(P:aL)(F:Nat->Bool):Code->Bool
 |.skip|.exit _|.label _|.ret=>true
 |.region _ aM _=>aM.all (Pq P F)
 |.seq a b=>iG P F a&&iG P F b
 |.cond c a b=>AG F c&&iG P F a&&iG P F b
 |.block _ c|.loop c=>iG P F c
 |_=>false
def iP(P:aL)(F:Nat->Bool):py->Bool
 |.code c|.inLoop c=>iG P F c
 |.inBlock _=>true
 |.inRegion aM _=>aM.all (Pq P F)
 |_=>false
structure uL(P:aL)(F:Nat->Bool):Prop where
 text:∀f,F f=true->∃fn c,P.funcs[f]?=some fn/\fn.body=some c/\iG P F c=true/\(fn.name == "runtime.NumGoroutine")=false
def uL.body{P:aL}{F:Nat->Bool}(h:uL P F):VI P F:=fun f hf=>by
 obtain⟨fn,c,h1,h2,_,h3⟩:=h.text f hf;exact⟨fn,h1,by rw[h2];rfl,h3⟩
def jm(fn:dU)(tmps:Array aj)(todo:List py)(mode:FrameMode)(kd:ki):Frame:={ fn,tmps,todo,defers:=[],mode,kind:=kd,roundOf:=none }
abbrev Fr(fn:dU)(tmps:Array aj)(todo:List py)(mode:FrameMode):Frame:=jm fn tmps todo mode .normal
inductive FR(P:aL)(F:Nat->Bool)(U:Rn)(k:List py)(kd:ki):bT->bT->Prop
 |run {fn:dU} {tmps bu:Array aj} {todo:List py}:iT F U tmps bu->todo.all (iP P F)=true->FR P F U k kd (Fr fn tmps todo .run) (jm fn bu (todo++k) .run kd)
 |ret {fn:dU} {tmps bu:Array aj} {todo O6:List py}:iT F U tmps bu->FR P F U k kd (Fr fn tmps todo .returning) (jm fn bu O6 .returning kd)
def FR.mono{P:aL}{F:Nat->Bool}{U U':Rn}{k:List py}{kd:ki}{fr fr':bT}(h:FR P F U k kd fr fr')(hl:Rn.le U U'):FR P F U' k kd fr fr':=by
 cases h with
 |run h1 h2=>exact .run (h1.mono hl) h2
 |ret h1=>exact .ret (h1.mono hl)
def FR.defers{P:aL}{F:Nat->Bool}{U:Rn}{k:List py}{kd:ki}{fr fr':bT}(h:FR P F U k kd fr fr'):fr.defers=[]:=by cases h<;>rfl
def FR.kinds{P:aL}{F:Nat->Bool}{U:Rn}{k:List py}{kd:ki}{fr fr':bT}(h:FR P F U k kd fr fr'):fr.kind=.normal/\fr'.kind=kd:=by cases h<;>exact⟨rfl,rfl⟩
inductive SR(P:aL)(F:Nat->Bool)(U:Rn)(k:List py)(kd:ki)(cs:List bT):bT->List bT->bT->List bT->Prop
 |base {fr fr':bT}:FR P F U k kd fr fr'->P.inits.idxOf? fr.fn=none->SR P F U k kd cs fr [] fr' cs
 |up {fr fr' c c':bT} {r r':List bT}:FR P F U [] .normal fr fr'->c.todo≠[]->c.mode=.run->SR P F U k kd cs c r c' r'->SR P F U k kd cs fr (c::r) fr' (c'::r')
def SR.mono{P:aL}{F:Nat->Bool}{U U':Rn}{k:List py}{kd:ki}{cs:List bT}{fr fr':bT}{l l':List bT}(h:SR P F U k kd cs fr l fr' l')(hl:Rn.le U U'):SR P F U' k kd cs fr l fr' l':=by
 induction h with
 |base h1 h2=>exact .base (h1.mono hl) h2
 |up h1 h2 h3 _ ih=>exact .up (h1.mono hl) h2 h3 ih
def SR.defers{P:aL}{F:Nat->Bool}{U:Rn}{k:List py}{kd:ki}{cs:List bT}{fr fr':bT}{l l':List bT}(h:SR P F U k kd cs fr l fr' l'):fr.defers=[]/\∀c∈l,c.defers=[]:=by
 induction h with
 |base h1 h2=>exact⟨h1.defers,sN⟩
 |up h1 h2 h3 _ ih=>
  refine⟨h1.defers,fun c hc=>?_⟩;rcases cy.1 hc with rfl|hc
  .exact ih.1
  exact ih.2 c hc
def OO(g:aC):Prop:=g.dying≠none\/g.status≠.running\/∃chain,g.frame.mode=.panicking chain/\g.frame.defers=[]/\∀c∈g.callers,c.defers=[]
section
variable{P:aL}{F:Nat->Bool}{G':Nat}{B:Nat->Prop}{U:Rn}{k:List py}{kd:ki}{cs:List bT}{lw w:ak}{main:Bool}
theorem raise_mode(fr:bT)(c:List PanicEntry):∃ch,(fr.raise c).mode=.panicking ch/\(fr.raise c).defers=fr.defers:=by
 unfold Frame.raise;cases fr.mode<;>exact⟨_,rfl,rfl⟩
theorem Qo{g:aC}(h:OO g)(hd:g.dying=none)(hr:g.status=.running):(∃o w1 es,fe P true g lw=.ended o w1 es)\/∃g1 w1 es,fe P true g lw=.go g1 w1 es/\OO g1:=by
 rcases h with h|h|⟨chain,h1,h2,h3⟩
 .exact absurd hd h
 .exact absurd hr h
 obtain⟨fr,cs,st,dy,off⟩:=g;obtain⟨fn,tmps,todo,defers,mode,kind,roundOf⟩:=fr;dsimp only at hd hr h1 h2 h3;subst hd;subst h1;subst h2;have e:fe P true ⟨⟨fn,tmps,todo,[],.panicking chain,kind,roundOf⟩,cs,st,none,off⟩ lw=l_ P true ⟨fn,tmps,todo,[],.panicking chain,kind,roundOf⟩ cs none lw:=by unfold fe;rfl
 rw[e];unfold l_;dsimp only;split
 .exact .inl ⟨_,_,_,rfl⟩
 .cases cs with
  |cons c r=>
   obtain⟨ch,e1,e2⟩:=raise_mode c chain;exact .inr ⟨_,_,_,rfl,.inr (.inr ⟨ch,e1,e2.trans (h3 c sN),fun x hx=>h3 x (by simp[hx])⟩)⟩
  |nil=>
   dsimp only;split
   .exact .inr ⟨_,_,_,rfl,.inr (.inl sN)⟩
   split
   .exact .inr ⟨_,_,_,rfl,.inl sN⟩
   .exact .inl ⟨_,_,_,rfl⟩
   exact .inl ⟨_,_,_,rfl⟩
def Il(P:aL)(F:Nat->Bool)(G':Nat)(B:Nat->Prop)(U:Rn)(k:List py)(kd:ki)(cs:List bT)(lw w:ak)(s s':GStep):Prop:=
 (∃o kI es,s=.ended o kI es)\/(∃g1 kI es,s=.go g1 kI es/\OO g1)\/
 (∃g1 ch v kI es,s=.comm g1 #[{ chan:=ch,send:=some v,zero:=.tuple #[] }] true .send kI es/\∀(b:Nat) (o:Obj),kI.heap[b]?=some o->o.isChan=false)\/
 ∃Gt l1 kI es wV Xf w1 evs ρ1,s=.go (G Gt l1) kI es/\s'=.go (G wV Xf) w1 evs/\SR P F ρ1 k kd cs Gt l1 wV Xf/\mX F G' B U lw w ρ1 kI w1 evs
theorem gu(hw:WR F G' B U lw w){Gt wV:bT}{l1 Xf:List bT}(h:SR P F U k kd cs Gt l1 wV Xf){s s':GStep}(e:s=.go (G Gt l1) lw #[])(e':s'=.go (G wV Xf) w #[]):Il P F G' B U k kd cs lw w s s':=
 .inr (.inr (.inr ⟨_,_,_,_,_,_,_,_,U,e,e',h,.refl hw⟩))
theorem mX.seen{U':Rn}{ey w':ak}{es:Array gq}(h:mX F G' B U lw w U' ey w' es)(fn:dU):mX F G' B U lw w U' ey w' (seen P fn es++#[]):=
 h.more fun e he=>h.evs e (mem_seen (by simpa using he))
theorem SR.set{fr fr' Gt wV:bT}{l l':List bT}(h:SR P F U k kd cs fr l fr' l')(hfn:Gt.fn=fr.fn)(h0:l=[]->FR P F U k kd fr fr'->FR P F U k kd Gt wV)(h1:l≠[]->FR P F U [] .normal fr fr'->FR P F U [] .normal Gt wV):SR P F U k kd cs Gt l wV l':=by
 cases h with
 |base h h'=>exact .base (h0 rfl h) (hfn▸h')
 |up h a b r=>exact .up (h1 sN h) a b r
theorem lZ{x:py}{t:List py}(h:(x::t).all (iP P F)=true):iP P F x=true/\t.all (iP P F)=true:=by simpa using h
theorem iK{x:py}{t:List py}(h:iP P F x=true)(h':t.all (iP P F)=true):(x::t).all (iP P F)=true:=by simp[h];simpa using h'
theorem yj{id:Nat}{k:List py}:∀ {t t':List py},exitTo id t=some t'->exitTo id (t++k)=some (t'++k)
 |[],t',h=>by cases h
 |x::t,t',h=>by
  cases x<;>simp only[iD,exitTo] at h ⊢<;>first|exact yj h|skip
  split at h
  .rename_i hh;rw[if_pos hh];cases h;rfl
  rename_i hh;rw[if_neg hh];exact yj h
theorem yi{id:Nat}:∀ {t t':List py},t.all (iP P F)=true->exitTo id t=some t'->t'.all (iP P F)=true
 |[],t',ht,h=>by cases h
 |x::t,t',ht,h=>by
  have Z3:=(lZ ht).2;cases x<;>simp only[exitTo] at h<;>first|exact yi Z3 h|skip
  split at h
  .cases h;exact Z3
  exact yi Z3 h
theorem Dk{fn:dU}{tmps bu:Array aj}{aM:Array Oper}{i:Nat}{rest:List Nat}{t k:List py}(h:iT F U tmps bu)(ht:(Item.inRegion aM (i::rest)::t).all (iP P F)=true){v v':aj}(hv:VR F U v v') :
  FR P F U k kd ((Fr fn tmps (.inRegion aM (i::rest)::t) .run).finish v) ((jm fn bu (.inRegion aM (i::rest)::t++k) .run kd).finish v'):=by
 unfold Frame.finish Fr jm;simp only[iD];have CS:(Item.inRegion aM rest::t).all (iP P F)=true:=iK (lZ ht).1 (lZ ht).2;cases(aM[i]?).bind (·.dst) with
 |none=>exact .run (todo:=.inRegion aM rest::t) h CS
 |some d=>exact .run (todo:=.inRegion aM rest::t) (h.set hv d) CS
theorem A4(fr:bT)(v:aj):(fr.finish v).fn=fr.fn:=by
 unfold Frame.finish;split<;>rfl
end
section
variable{P:aL}{F:Nat->Bool}{B:Nat->Prop}{U:Rn}{k:List py}{kd:ki}{cs:List bT}{lw w:ak}{main:Bool}
theorem WR.rok(h:WR F P.globals.size B U lw w):Vr P U:=⟨h.inj,h.low⟩
theorem UU(hF:uL P F){f:dU}(hf:F f=true){l m:Array aj}(h:iT F U l m):FR P F U [] .normal (eo P f l .normal) (eo P f m .normal):=by
 obtain⟨fn,c,h1,h2,h3,_⟩:=hF.text f hf;unfold eo;simp only[h1,dJ,Option.getD_some,gI,h2];have:=FR.run (P:=P) (F:=F) (U:=U) (k:=[]) (kd:=.normal) (fn:=f) (todo:=[.code c]) (h.append (iT.replicate tO (fn.ntmps-l.size))) (by simpa [iP] using h3);rw[h.size] at this;rw[h.size];exact this
theorem opR(hF:uL P F)(hw:WR F P.globals.size B U lw w)(ht:vU lw w)(hG:P.globals.size<=lw.heap.size)(Y0:P.globals.size<=w.heap.size)
  {fn:dU} {tmps bu:Array aj} {aM:Array Oper} {i:Nat} {rest:List Nat} {t t':List py} {l l':List bT} (hto:(Item.inRegion aM (i::rest)::t).all (iP P F)=true)
  (hT:t'=t++(if l=[] then k else[])) {kk:ki} (hK:kk=if l=[] then kd else .normal) (hE:kd≠.early)
  (h:SR P F U k kd cs (Fr fn tmps (.inRegion aM (i::rest)::t) .run) l (jm fn bu (.inRegion aM (i::rest)::t') .run kk) l') (ha:iT F U tmps bu) {o:Oper} (ho:aM[i]?=some o) :
  Il P F P.globals.size B U k kd cs lw w (ek P true (Fr fn tmps (.inRegion aM (i::rest)::t) .run) l none (cu (Fr fn tmps (.inRegion aM (i::rest)::t) .run).eval o) lw)
   (ek P true (jm fn bu (.inRegion aM (i::rest)::t') .run kk) l' none (cu (jm fn bu (.inRegion aM (i::rest)::t') .run kk).eval o) w):=by
 have cV:WO P F o.op=true:=by
  have:=(lZ hto).1;exact ko.1 this o (eV ho)
 have hs:=KG hF.body hw.rok (fr:=Fr fn tmps (.inRegion aM (i::rest)::t) .run) (fr':=jm fn bu (.inRegion aM (i::rest)::t') .run kk) ha cV
 have rZ:∀ {U':Rn} {v v':aj},Rn.le U U'->VR F U' v v'->SR P F U' k kd cs ((Fr fn tmps (.inRegion aM (i::rest)::t) .run).finish v) l ((jm fn bu (.inRegion aM (i::rest)::t') .run kk).finish v') l':=by
  intro U' v v' hle hv;refine(h.mono hle).set (A4 _ _) (fun hl _=>?_) fun hl _=>?_
  .rw[if_pos hl] at hT hK;subst hT;subst hK;exact Dk (k:=k) (ha.mono hle) hto hv
  rw[if_neg hl] at hT hK;subst hT;subst hK;exact Dk (k:=[]) (ha.mono hle) hto hv
 rcases hs.runT hw ht hG Y0 #[] #[] with⟨a,kI,le,b,w1,evs,ρ1,h1,h2,h3,h4⟩|⟨e,kI,le,h1,h2⟩
 .simp only[eZ] at h2
  have Xy:(kk == .early)=false:=by
   rw[hK];split
   .exact beq_eq_false_iff_ne.2 hE
   rfl
  unfold ek;simp only[if_true,h1,h2];simp only[jm,Xy,bE,if_false];cases h3 with
  |value hv=>
   refine .inr (.inr (.inr ⟨_,_,_,_,_,_,_,_,ρ1,rfl,rfl,rZ h4.le hv,?_⟩));exact h4.seen fn
  |skip=>
   refine .inr (.inr (.inr ⟨_,_,_,_,_,_,_,_,ρ1,rfl,rfl,rZ h4.le tO,?_⟩));exact h4.seen fn
  |enter hf ad1=>
   refine .inr (.inr (.inr ⟨_,_,_,_,_,_,_,_,ρ1,rfl,rfl,.up (UU hF hf ad1) (by simp[Fr]) rfl (h.mono h4.le),?_⟩));exact h4.seen fn
  |send=>exact .inr (.inr (.inl ⟨_,_,_,_,_,rfl,h4.wr.Jc⟩))
 .unfold ek;simp only[if_true,h1];have hd:=h.defers;cases e with
  |panic v=>
   obtain⟨ch,e1,e2⟩:=raise_mode (Fr fn tmps (.inRegion aM (i::rest)::t) .run) [{ v,recovered:=false }];exact .inr (.inl ⟨_,_,_,rfl,.inr (.inr ⟨ch,e1,e2.trans hd.1,hd.2⟩)⟩)
  |stuck s=>exact .inl ⟨_,_,_,rfl⟩
  |unsupported u=>
   cases u<;>first|exact absurd h2 id|exact .inl ⟨_,_,_,rfl⟩
  |_=>exact absurd h2 id
theorem SR.top{fr fr':bT}{l l':List bT}(h:SR P F U k kd cs fr l fr' l'):FR P F U (if l=[] then k else[]) (if l=[] then kd else .normal) fr fr':=by
 cases h with
 |base h _=>simpa using h
 |up h _ _ _=>simpa using h
theorem SR.set'{fr fr' Gt wV:bT}{l l':List bT}(h:SR P F U k kd cs fr l fr' l')(hfn:Gt.fn=fr.fn)(h1:FR P F U (if l=[] then k else[]) (if l=[] then kd else .normal) Gt wV):SR P F U k kd cs Gt l wV l':=
 h.set hfn (fun hl _=>by simpa [hl] using h1) fun hl _=>by simpa [hl] using h1
theorem S1{tmps bu:Array aj}(ha:iT F U tmps bu)(aM:Array Oper):yielded aM bu=yielded aM tmps:=by
 funext j
 unfold yielded;cases(aM[j]?).bind (·.dst) with
 |none=>rfl
 |some d=>
  simp only[gI];cases hx:tmps[d]? with
  |none=>rw[ha.none hx]
  |some x=>
   obtain⟨y,hy,hv⟩:=ha.get hx;rw[hy];cases hv<;>rfl
theorem aeo(hF:uL P F)(hw:WR F P.globals.size B U lw w)(ht:vU lw w)(hG:P.globals.size<=lw.heap.size)(Y0:P.globals.size<=w.heap.size)
  {fn:dU} {tmps bu:Array aj} {todo:List py} {l l':List bT} (h:SR P F U k kd cs (Fr fn tmps todo .run) l (jm fn bu (todo++if l=[] then k else[]) .run (if l=[] then kd else .normal)) l') (hE:kd≠.early)
  (ha:iT F U tmps bu) (cV:todo.all (iP P F)=true) (hk:l=[]->todo=[]->k=[]) :
  Il P F P.globals.size B U k kd cs lw w (cA P true true (Fr fn tmps todo .run) l none lw) (cA P main true (jm fn bu (todo++if l=[] then k else[]) .run (if l=[] then kd else .normal)) l' none w):=by
 have qY:todo=[]->(if l=[] then k else[])=[]:=fun e=>by
  split
  .rename_i hl;exact hk hl e
  rfl
 generalize rE:(if l=[] then k else[])=kk at h qY ⊢;generalize CY:(if l=[] then kd else CallKind.normal)=Ka at h ⊢;have CL:∀t:List py,t.all (iP P F)=true->SR P F U k kd cs (Fr fn tmps t .run) l (jm fn bu (t++kk) .run Ka) l':=fun t hto=>h.set' rfl (by rw[rE,CY];exact .run ha hto);have acu:∀t t':List py,SR P F U k kd cs (Fr fn tmps t .returning) l (jm fn bu t' .returning Ka) l':=fun t t'=>h.set' rfl (by rw[CY];exact .ret ha);cases todo with
 |nil=>
  rw[qY rfl] at h ⊢;exact gu hw (acu [] []) rfl rfl
 |cons x t=>
  obtain⟨hx,Js⟩:=lZ cV;cases x with
  |inBlock id=>exact gu hw (CL t Js) rfl rfl
  |inLoop c=>exact gu hw (CL (.code c::.inLoop c::t) (iK hx (iK hx Js))) rfl rfl
  |inRegion aM todo=>
   cases todo with
   |nil=>exact gu hw (CL t Js) rfl rfl
   |cons i rest=>
    have hy:=S1 ha aM
    by_cases SE:((aM[i]?).map (Region.wanted · (yielded aM tmps))).getD false=true
    .have e1:cA P true true (Fr fn tmps (.inRegion aM (i::rest)::t) .run) l none lw=eW P true (Fr fn tmps (.inRegion aM (i::rest)::t) .run) l none lw:=if_pos SE
     have e2:cA P main true (jm fn bu (.inRegion aM (i::rest)::t++kk) .run Ka) l' none w=eW P true (jm fn bu (.inRegion aM (i::rest)::(t++kk)) .run Ka) l' none w:=by
      rw[<-hy] at SE;exact if_pos SE
     rw[e1,e2];cases ho:aM[i]? with
     |none=>rw[ho] at SE;cases SE
     |some o=>
      have e3:eW P true (Fr fn tmps (.inRegion aM (i::rest)::t) .run) l none lw=ek P true (Fr fn tmps (.inRegion aM (i::rest)::t) .run) l none (cu (Fr fn tmps (.inRegion aM (i::rest)::t) .run).eval o) lw:=by
       unfold eW;have:(Fr fn tmps (.inRegion aM (i::rest)::t) .run).oper?=some o:=ho;rw[this];rfl
      have e4:eW P true (jm fn bu (.inRegion aM (i::rest)::(t++kk)) .run Ka) l' none w=ek P true (jm fn bu (.inRegion aM (i::rest)::(t++kk)) .run Ka) l' none (cu (jm fn bu (.inRegion aM (i::rest)::(t++kk)) .run Ka).eval o) w:=by
       unfold eW;have:(jm fn bu (.inRegion aM (i::rest)::(t++kk)) .run Ka).oper?=some o:=ho;rw[this];rfl
      rw[e3,e4];exact opR hF hw ht hG Y0 cV (by rw[rE];rfl) CY.symm hE h ha ho
    have e1:cA P true true (Fr fn tmps (.inRegion aM (i::rest)::t) .run) l none lw=.go (G ((Fr fn tmps (.inRegion aM (i::rest)::t) .run).finish ar) l) lw:=if_neg SE
    have e2:cA P main true (jm fn bu (.inRegion aM (i::rest)::t++kk) .run Ka) l' none w=.go (G ((jm fn bu (.inRegion aM (i::rest)::t++kk) .run Ka).finish ar) l') w:=by
     rw[<-hy] at SE;exact if_neg SE
    exact gu hw (h.set' (A4 _ _) (by rw[rE,CY];exact Dk ha cV tO)) e1 e2
  |code c=>
   cases c with
   |ret=>exact gu hw (acu _ _) rfl rfl
   |skip=>exact gu hw (CL t Js) rfl rfl
   |label n=>exact gu hw (CL t Js) rfl rfl
   |seq a b=>
    have hx':iG P F a=true/\iG P F b=true:=by simpa [iP,iG] using hx
    exact gu hw (CL (.code a::.code b::t) (iK hx'.1 (iK hx'.2 Js))) rfl rfl
   |cond c a b=>
    have hx':(AG F c=true/\iG P F a=true)/\iG P F b=true:=by simpa [iP,iG] using hx
    have hv:=kq (fr:=Fr fn tmps (.code (.cond c a b)::t) .run) (fr':=jm fn bu (.code (.cond c a b)::t++kk) .run Ka) ha hx'.1.1
    have e1:cA P true true (Fr fn tmps (.code (.cond c a b)::t) .run) l none lw=(match (Fr fn tmps (.code (.cond c a b)::t) .run).eval c with
     |.bool x=>.go (G (Fr fn tmps (.code (if x then a else b)::t) .run) l) lw
     |_=>.ended (.stuck "cond: bool expected" ((Fr fn tmps (.code (.cond c a b)::t) .run).pos P)) lw):=rfl
    have e2:cA P main true (jm fn bu (.code (.cond c a b)::t++kk) .run Ka) l' none w=(match (jm fn bu (.code (.cond c a b)::t++kk) .run Ka).eval c with
     |.bool x=>.go (G (jm fn bu (.code (if x then a else b)::t++kk) .run Ka) l') w
     |_=>.ended (.stuck "cond: bool expected" ((jm fn bu (.code (.cond c a b)::t++kk) .run Ka).pos P)) w):=rfl
    rw[e1,e2];generalize (Fr fn tmps (.code (.cond c a b)::t) .run).eval c=v at hv ⊢;generalize (jm fn bu (.code (.cond c a b)::t++kk) .run Ka).eval c=v' at hv ⊢;cases hv<;>first|exact .inl ⟨_,_,_,rfl⟩|skip
    rename_i x;refine gu hw (CL (.code (if x then a else b)::t) (iK ?_ Js)) rfl rfl;cases x
    .exact hx'.2
    exact hx'.1.2
   |block id c=>exact gu hw (CL (.code c::.inBlock id::t) (iK hx (iK rfl Js))) rfl rfl
   |loop c=>exact gu hw (CL (.code c::.inLoop c::t) (iK hx (iK hx Js))) rfl rfl
   |exit id=>
    cases he:exitTo id t with
    |none=>
     refine .inl ⟨.stuck "exit, goto: no such block or label" ((Fr fn tmps (.code (.exit id)::t) .run).pos P),lw,#[],?_⟩;show(exitTo id t).elim _ _=_;rw[he];rfl
    |some t'=>
     refine gu hw (CL t' (yi Js he)) ?_ ?_
     .show(exitTo id t).elim _ _=_;rw[he];rfl
     show(exitTo id (t++kk)).elim _ _=_;rw[yj he];rfl
   |region id aM draw=>
    cases draw with
    |false=>exact gu hw (CL (.inRegion aM (List.range aM.size)::t) (iK hx Js)) rfl rfl
    |true=>
     have h0:lw.tape lw.drawn=w.tape w.drawn:=ht 0;refine .inr (.inr (.inr ⟨_,_,_,_,_,_,_,_,U,rfl,?_,CL (.inRegion aM (Region.schedule (P.follows .mixedOrders) aM (lw.tape lw.drawn (.order fn id)))::t) (iK hx Js),G_ hw⟩));rw[h0];rfl
   |_=>cases hx
  |_=>cases hx
theorem QA{ι:Type}{f f':ι->iN aj}(hf:∀a,bZ P F (At U (VR F U)) U (f a) (f' a))(l:Array ι):bZ P F (At U (iT F U)) U (l.mapM f) (l.mapM f'):=by
 rw[o9,o9]
 have:∀l:List ι,bZ P F (At U (Ss F U)) U (l.mapM f) (l.mapM f'):=by
  intro l;rw[<-List.mapM'_eq_mapM,<-List.mapM'_eq_mapM]
  induction l with
  |nil=>exact .dh .nil
  |cons a l ih=>exact(hf a).dF fun _ _ h1=>ih.dF fun _ _ h2=>.dh (.cons h1 h2)
 exact(this l.toList).dF fun _ _ h=>.dh h.row
theorem KI{v v':aj}(h:VR F U v v'):bZ P F (At U (AR U)) U (asAddr v) (asAddr v'):=by
 cases h<;>first|exact bj|exact gw (e:=.nilDeref)|exact .dh ‹_›
theorem II{tmps bu:Array aj}(ha:iT F U tmps bu)(fn:Func):bZ P F (At U (VR F U)) U (results fn tmps) (results fn bu):=by
 unfold results;refine(QA (fun r=>?_) fn.results).dF fun vs vs' YB=>?_
 .cases r with
  |tmp t=>exact .dh (ha.getD tO t)
  |cell a t=>exact(KI (ha.getD tO a)).dF fun x y h=>yV h
 have hs:=YB.size
 by_cases h1:vs.size=1
 .have h2:vs'.size=1:=oN;simp only[h1,h2,dif_pos];exact .dh (YB.at_ 0 _ _ (aO oN) (aO oN))
 have h2:¬vs'.size=1:=oN;simp only[h1,h2,dif_neg,not_false_eq_true];exact .dh YB.tuple
theorem Pj(h0:WR F P.globals.size B U lw w){fr fr':bT}{l l':List bT}(h:SR P F U k kd cs fr l fr' l'){v v':aj}{kI w1:ak}{evs:Array gq}{ρ1:Rn}
  (hv:VR F ρ1 v v') (hw:mX F P.globals.size B U lw w ρ1 kI w1 evs) (es:Array gq) :
  Il P F P.globals.size B U k kd cs lw w (BD es (uo P true fr l none v kI)) (BD evs (uo P main fr' l' none v' w1)):=by
 cases h with
 |base h hi=>
  refine .inl ?_;unfold uo;dsimp only;rw[h.kinds.1,hi];exact⟨_,_,_,rfl⟩
 |@up _ _ c c' r r' h adp adC hr=>
  unfold uo;dsimp only;rw[h.kinds.1,h.kinds.2];have hr':=hr.mono hw.le;have NS:=hr'.top;refine .inr (.inr (.inr ⟨_,_,_,_,_,_,_,_,ρ1,rfl,rfl,hr'.set' (A4 _ _) ?_,hw.more fun e he=>hw.evs e (by simpa using he)⟩));refine ?_;generalize (if r=[] then k else[])=kk at NS ⊢;generalize (if r=[] then kd else CallKind.normal)=Ka at NS ⊢;cases NS with
  |ret _=>cases adC
  |@run fn tmps bu todo ha cV=>
   cases todo with
   |nil=>exact absurd rfl adp
   |cons x t=>
    cases x with
    |inRegion aM is=>
     cases is with
     |nil=>exact .run (todo:=.inRegion aM []::t) ha cV
     |cons i rest=>exact Dk ha cV hv
    |code c=>exact .run (todo:=.code c::t) ha cV
    |inBlock id=>exact .run (todo:=.inBlock id::t) ha cV
    |inLoop c=>exact .run (todo:=.inLoop c::t) ha cV
    |_=>exact absurd (lZ cV).1 (by simp[iP])
theorem Wl(hw:WR F P.globals.size B U lw w)(ht:vU lw w)(hG:P.globals.size<=lw.heap.size)(Y0:P.globals.size<=w.heap.size)
  {fn:dU} {tmps bu:Array aj} {todo O6:List py} {l l':List bT} {kk:ki} (h:SR P F U k kd cs (Fr fn tmps todo .returning) l (jm fn bu O6 .returning kk) l') (ha:iT F U tmps bu) :
  Il P F P.globals.size B U k kd cs lw w (l_ P true (Fr fn tmps todo .returning) l none lw) (l_ P main (jm fn bu O6 .returning kk) l' none w):=by
 unfold l_;dsimp only[Fr,jm];cases hf:P.funcs[fn]? with
 |none=>
  have:=Pj (main:=main) hw h (ha.getD tO 0) (.refl hw) #[];have e:∀s:GStep,BD #[] s=s:=fun s=>by cases s<;>simp[BD]
  rw[e,e] at this;exact this
 |some f=>
  rcases(II (P:=P) ha f).runT hw ht hG Y0 #[] #[] with⟨a,kI,le,b,w1,evs,ρ1,h1,h2,h3,h4⟩|⟨e,kI,le,h1,h2⟩
  .simp only[eZ] at h2;simp only[h1,h2];obtain⟨rfl,hv⟩:=h3;exact Pj hw h hv (h4.more fun e he=>h4.evs e (mem_seen he)) _
  simp only[h1];cases e<;>exact .inl ⟨_,_,_,rfl⟩
theorem acn(hF:uL P F)(hw:WR F P.globals.size B U lw w)(ht:vU lw w)(hG:P.globals.size<=lw.heap.size)(Y0:P.globals.size<=w.heap.size)
  {fr fr':bT} {l l':List bT} (h:SR P F U k kd cs fr l fr' l') (hk:l=[]->fr.mode=.run->fr.todo=[]->k=[]) (hE:kd≠.early) :
  Il P F P.globals.size B U k kd cs lw w (fe P true (G fr l) lw) (fe P main (G fr' l') w):=by
 have NS:=h.top;generalize rE:(if l=[] then k else[])=kk at NS;generalize CY:(if l=[] then kd else CallKind.normal)=Ka at NS;cases NS with
 |run ha cV=>
  subst rE;subst CY;exact aeo (main:=main) hF hw ht hG Y0 h hE ha cV fun h1 h2=>hk h1 rfl h2
 |ret ha=>exact Wl (main:=main) hw ht hG Y0 h ha
end
structure iO(K:Nat->Prop)(w w1:ak):Prop where
 grow:w.heap.size<=w1.heap.size
 keep:∀c,K c->w1.heap[c]?=w.heap[c]?
def iO.refl(K:Nat->Prop)(w:ak):iO K w w:=⟨aJ _,fun _ _=>rfl⟩
def iO.trans{K:Nat->Prop}{a b c:ak}(h:iO K a b)(h':iO K b c):iO K a c:=⟨aG h.grow h'.grow,fun x hx=>(h'.keep x hx).trans (h.keep x hx)⟩
def own(O:Nat->Prop)(w w':ak):Nat->Prop:=fun c=>O c\/(w.heap.size<=c/\c<w'.heap.size)
structure J8(S O:Nat->Prop)(w w':ak)(es:Array gq):Prop where
 grow:w.heap.size<=w'.heap.size
 keep:∀c,c<w.heap.size->¬O c->w'.heap[c]?=w.heap[c]?
 tape:w'.tape=w.tape
 drawn:w.drawn<=w'.drawn
 os:w'.os=w.os
 out:w'.output=w.output
 evs:∀e∈es,SZ (fun c=>S c\/own O w w' c) (own O w w') e
inductive Walk(P:aL)(main:Bool)(S:Nat->Prop)(Stop:(Nat->Prop)->aC->ak->Prop):(Nat->Prop)->aC->ak->Prop
 |stop {O:Nat->Prop} {g:aC} {w:ak}:(∀w1,iO (fun c=>S c\/O c) w w1->Stop O g w1)->Walk P main S Stop O g w
 |step {O:Nat->Prop} {g:aC} {w:ak}:g.status=.running->g.dying=none->
   (∀w1,iO (fun c=>S c\/O c) w w1->∃g2 w2 es,fe P main g w1=.go g2 w2 es/\J8 S O w1 w2 es/\g2.status=.running/\g2.dying=none)->
   (∀w1,iO (fun c=>S c\/O c) w w1->∀g2 w2 es,fe P main g w1=.go g2 w2 es->Walk P main S Stop (own O w1 w2) g2 w2)->Walk P main S Stop O g w
section
variable{P:aL}{main:Bool}{S:Nat->Prop}{Stop Zh:(Nat->Prop)->aC->ak->Prop}{O:Nat->Prop}{g:aC}{w:ak}
theorem Walk.bind(h:Walk P main S Stop O g w)(k:∀O g w,Stop O g w->Walk P main S Zh O g w):Walk P main S Zh O g w:=by
 induction h with
 |@stop O g w h=>exact k _ _ _ (h w (.refl _ _))
 |step a b c d ih=>exact .step a b c ih
theorem Walk.mk{r:g.status=.running}{d:g.dying=none}(h:∀w1,iO (fun c=>S c\/O c) w w1->∃g2 w2 es,fe P main g w1=.go g2 w2 es/\J8 S O w1 w2 es/\g2.status=.running/\g2.dying=none/\Walk P main S Stop (own O w1 w2) g2 w2):Walk P main S Stop O g w:=by
 refine .step r d (fun w1 h1=>?_) fun w1 h1 g2 w2 es e=>?_
 .obtain⟨g2,w2,es,e,hg,hr,hd,_⟩:=h w1 h1;exact⟨g2,w2,es,e,hg,hr,hd⟩
 obtain⟨g3,w3,es3,e3,_,_,_,hw⟩:=h w1 h1;rw[e] at e3;injection e3 with e4 e5 e6
 rw[e4,e5];exact hw
end
section
variable{P:aL}{F:Nat->Bool}{B:Nat->Prop}{U:Rn}{k:List py}{kd:ki}{cs:List bT}{lw w:ak}{main:Bool}{Stop:aC->ak->Prop}
theorem zu{g g1 g':aC}{kI ey:ak}{es:Array gq}(h:rR P g lw g' ey)(e:fe P true g lw=.go g1 kI es):g'=g1/\ey=kI:=by
 obtain⟨hr,_,⟨aM,hs⟩,_⟩:=h;rw[stepT_solo hr,nL] at hs;have F2:(#[g]:Array aC)[0]?=some g:=rfl;have e1:=runT_crowd_go (P:=P) (gs:=#[g]) (w:=lw) (sl:=none) (i:=0) F2 e;rw[e1] at hs;injection hs with hs1 _
 injection hs1 with hs3
 have:(#[g].map (woken P g g1 kI)).setIfInBounds 0 g1 = #[g1]:=sN;rw[this,<-nL] at hs3;obtain⟨h1,h2⟩:=oH hs3;exact⟨h1.symm,h2.symm⟩
theorem vB{g g':aC}{kI ey:ak}{o:Outcome}{es:Array gq}(h:rR P g lw g' ey)(e:fe P true g lw=.ended o kI es):False:=by
 obtain⟨hr,_,⟨aM,hs⟩,_⟩:=h;rw[stepT_solo hr,nL] at hs;have F2:(#[g]:Array aC)[0]?=some g:=rfl;have e1:=runT_many_ended (P:=P) (gs:=#[g]) (w:=lw) (sl:=none) (i:=0) F2 e;rw[e1] at hs;injection hs with hs1 _
 cases hs1
theorem NJ{g g1 g':aC}{kI ey:ak}{ch v:aj}{es:Array gq}(h:rR P g lw g' ey)(e:fe P true g lw=.comm g1 #[{ chan:=ch,send:=some v,zero:=.tuple #[] }] true .send kI es)
  (hn:∀(b:Nat) (o:Obj),kI.heap[b]?=some o->o.isChan=false):False:=by
 obtain⟨hr,_,⟨aM,hs⟩,hr',_⟩:=h;rw[stepT_solo hr,nL] at hs;have F2:(#[g]:Array aC)[0]?=some g:=rfl;have e1:=runT_crowd_comm (P:=P) (gs:=#[g]) (w:=lw) (sl:=none) (i:=0) F2 e;rw[e1] at hs;injection hs with hs1 _
 have ly:∀c:m7,(c.chan=.chan none\/(match c.chan with
   |.chan none=>false
   |.chan (some r)=>!(kI.heap[r]? matches some (.chan ..))
   |_=>true)=true):=by
  intro c;cases hc:c.chan with
  |chan r=>
   cases r with
   |none=>exact .inl rfl
   |some r=>
    right;dsimp only;cases hh:kI.heap[r]? with
    |none=>rfl
    |some o=>
     have:=hn r o hh;cases o<;>first|rfl|cases this
  |_=>exact .inr rfl
 unfold communicate at hs1;rcases ly { chan:=ch,send:=some v,zero:=.tuple #[] } with hb|hb
 .dsimp only at hb;subst hb;have hw:∀gs:Array aC,ways kI gs { chan:=.chan none,send:=some v,zero:=.tuple #[] }=[]:=fun gs=>rfl;simp[hw,waitingAt,timerAhead] at hs1;have h1:=congrArg Machine.gs hs1;have h2:(#[g].setIfInBounds 0 { g1 with status:=.blocked,offers:=some (#[{ chan:=.chan none,send:=some v,zero:=.tuple #[] }],.send) }:Array aC) = #[g']:=by simpa [solo,crowd] using h1
  have h3:g'={ g1 with status:=.blocked,offers:=some (#[{ chan:=.chan none,send:=some v,zero:=.tuple #[] }],.send) }:=by
   have:=congrArg (fun a:Array aC=>a[0]?) h2;simpa using this.symm
  rw[h3] at hr';cases hr'
 dsimp only at hb;simp at hs1;rw[if_pos] at hs1
 .cases hs1
 exact hb
theorem S9(hS:∀g W,Stop g W->¬OO g){g:aC}{W:ak}(h:Bar P Stop g W):¬OO g:=by
 induction h with
 |stop h=>exact hS _ _ h
 |@step g W live down ih=>
  intro hs;obtain⟨g',W',hl⟩:=live W.tape fun _ _=>rfl;rcases Qo (P:=P) (lw:=dn W W.tape W.drawn) hs hl.2.1 hl.1 with⟨o,w1,es,e⟩|⟨g1,w1,es,e,hs1⟩
  .exact vB hl e
  obtain⟨rfl,rfl⟩:=zu hl e;exact ih W.tape (fun _ _=>rfl) _ _ hl hs1
theorem Sn{fn:dU}{tmps:Array aj}{todo:List py}(hi:P.inits.idxOf? fn=none):∃o w1 es,fe P true (G (Fr fn tmps todo .returning) []) lw=.ended o w1 es:=by
 have e:fe P true (G (Fr fn tmps todo .returning) []) lw=l_ P true (Fr fn tmps todo .returning) [] none lw:=rfl;rw[e]
 have hd:∀v w,uo P true (Fr fn tmps todo .returning) [] none v w=.ended (.done v) w:=by
  intro v w;unfold uo;simp only[Fr,jm,hi];rfl
 unfold l_;dsimp only[Fr,jm];cases P.funcs[fn]? with
 |none=>exact⟨_,_,_,hd _ _⟩
 |some f=>
  dsimp only;generalize (results f tmps).runT P lw #[]=r;obtain⟨r,es⟩:=r;cases r with
  |ok v w=>
   have:=hd v w;simp only[Fr,jm] at this;simp only[this];exact⟨_,_,_,rfl⟩
  |halt e w=>cases e<;>exact⟨_,_,_,rfl⟩
theorem WR.rely(h:WR F P.globals.size B U lw w){w1:ak}(hr:iO (fun c=>(∃b,B b/\U b=some c)\/U.owns B c) w w1):WR F P.globals.size B U lw w1:=by
 refine⟨h.inj,h.low,h.base,fun b c hb=>?_,h.Jc⟩;obtain⟨o,o',h1,h2,h3,h4⟩:=h.at_ b c hb;refine⟨o,o',h1,?_,h3,h4⟩;rw[hr.keep c ?_,h2];rcases Classical.em (B b) with hl|hg
 .exact .inl ⟨b,hl,hb⟩
 exact .inr ⟨b,hg,hb⟩
theorem mX.owns{ρ1:Rn}{kI w1:ak}{es:Array gq}(h0:WR F P.globals.size B U lw w)(h:mX F P.globals.size B U lw w ρ1 kI w1 es):ρ1.owns B=own (U.owns B) w w1:=by
 funext c
 refine propext ⟨?_,?_⟩
 .rintro⟨b,hb,he⟩;rcases h.new b c he with h1|⟨_,h2⟩
  .exact .inl ⟨b,hb,h1⟩
  obtain⟨_,_,_,hc,_⟩:=h.wr.at_ b c he;exact .inr ⟨h2,eJ hc⟩
 rintro(⟨b,hb,he⟩|⟨h1,h2⟩)
 .exact⟨b,hb,h.le _ _ he⟩
 obtain⟨b,he⟩:=h.fresh c h1 h2;rcases h.new b c he with h3|⟨h3,_⟩
 .obtain⟨_,_,_,hc,_⟩:=h0.at_ b c h3;have:=eJ hc;omega
 exact⟨b,fun hb=>by have:=h0.base b hb;omega,he⟩
theorem mX.shared{ρ1:Rn}{kI w1:ak}{es:Array gq}(h0:WR F P.globals.size B U lw w)(h:mX F P.globals.size B U lw w ρ1 kI w1 es)(c:Nat):(∃b,B b/\ρ1 b=some c)↔∃b,B b/\U b=some c:=by
 constructor
 .rintro⟨b,hb,he⟩;rcases h.new b c he with h1|⟨h1,_⟩
  .exact⟨b,hb,h1⟩
  have:=h0.base b hb;omega
 rintro⟨b,hb,he⟩;exact⟨b,hb,h.le _ _ he⟩
structure ae9(P:aL)(F:Nat->Bool)(B:Nat->Prop)(k:List py)(kd:ki)(cs:List bT)(Stop:aC->ak->Prop)(lw0:ak)(ρ0:Rn)(O:Nat->Prop)(g':aC)(w':ak)(fr:bT)(l:List bT)(lw:ak)(U:Rn)(fr':bT)(l':List bT):Prop where
 g:g'=G fr' l'
 stop:Stop (G fr l) lw
 sr:SR P F U k kd cs fr l fr' l'
 wr:WR F P.globals.size B U lw w'
 vH:P.globals.size<=w'.heap.size
 own:O=U.owns B
 shared:∀c,(∃b,B b/\U b=some c)↔∃b,B b/\ρ0 b=some c
 le:Rn.le ρ0 U
 grow:lw0.heap.size<=lw.heap.size
 ok:dv lw
theorem Kr(T:Quiet P)(hF:uL P F)(hS:∀g W,Stop g W->¬OO g)(hE:kd≠.early)(hk:k=[]\/∀g W,Stop g W->g.frame.mode=.run){S:Nat->Prop} :
  ∀ {g:aC} {lw:ak},Bar P Stop g lw->Ap g->dv lw->P.globals.size<=lw.heap.size->∀ {fr:bT} {l:List bT} {U:Rn} {fr':bT} {l':List bT} {w:ak},g=G fr l->SR P F U k kd cs fr l fr' l'->WR F P.globals.size B U lw w->P.globals.size<=w.heap.size->
   (∀c,S c↔∃b,B b/\U b=some c)->
   Walk P main S (fun O g' w'=>∃Gt l1 kI ρ1 wV Xf,ae9 P F B k kd cs Stop lw U O g' w' Gt l1 kI ρ1 wV Xf) (U.owns B) (G fr' l') w:=by
 intro g lw h
 induction h with
 |@stop g lw h=>
  rintro XB cV hG fr l U fr' l' w rfl Z6 hw Cl XK;have eK:(fun c=>S c\/U.owns B c)=fun c=>(∃b,B b/\U b=some c)\/U.owns B c:=by funext c;rw[XK c]
  refine .stop fun w1 hr=>?_;rw[eK] at hr;exact⟨fr,l,lw,U,fr',l',rfl,h,Z6,hw.rely hr,aG Cl hr.grow,rfl,fun c=>Iff.rfl,Rn.le_refl _,aJ _,cV⟩
 |@step g lw live down ih=>
  rintro XB cV hG fr l U fr' l' w rfl Z6 hw Cl XK;have eK:(fun c=>S c\/U.owns B c)=fun c=>(∃b,B b/\U b=some c)\/U.owns B c:=by funext c;rw[XK c]
  refine Walk.mk (r:=rfl) (d:=rfl) fun w1 hr=>?_;have hr0:=hr;rw[eK] at hr;have hw1:=hw.rely hr;have adO:=aG Cl hr.grow;let I:Nat->dH->Nat:=fun p=>if p<lw.drawn then lw.tape p else w1.tape (w1.drawn+(p-lw.drawn))
  have N0:Ext lw I:=fun i hi=>by simp only[I,if_pos hi]
  have ht:vU (dn lw I lw.drawn) w1:=fun i=>by simp only[zk,qb,I,if_neg (show ¬lw.drawn+i<lw.drawn by omega),sB]
  obtain⟨g1,kI,hl⟩:=live I N0;obtain⟨adN,CV,_⟩:=rA T XB (lw:=dn lw I lw.drawn) cV hl
  have qY:l=[]->fr.mode=.run->fr.todo=[]->k=[]:=by
   rintro rfl hm htd;rcases hk with hk|hk
   .exact hk
   .exfalso;cases Z6 with
    |base hfr hi=>
     cases hfr with
     |ret _=>cases hm
     |@run fn tmps bu todo ha cV=>
      dsimp only[Fr,jm] at htd;subst htd;have e:fe P true (G (Fr fn tmps [] .run) []) (dn lw I lw.drawn)=.go (G (Fr fn tmps [] .returning) []) (dn lw I lw.drawn) #[]:=rfl;obtain⟨rfl,rfl⟩:=zu hl e;have ahv:=down I N0 _ _ hl;cases ahv with
      |stop h=>exact absurd (hk _ _ h) (by simp[G,Fr,jm])
      |step adf _=>
       obtain⟨g2,w2,hl2⟩:=adf _ fun _ _=>rfl;obtain⟨o,w3,es,e3⟩:=Sn (P:=P) (lw:=dn (dn lw I lw.drawn) (dn lw I lw.drawn).tape (dn lw I lw.drawn).drawn) (fn:=fn) (tmps:=tmps) (todo:=[]) hi;exact vB hl2 e3
  have ZY:WR F P.globals.size B U (dn lw I lw.drawn) w1:=hw1.tape I w1.tape lw.drawn w1.drawn;rcases acn (main:=main) hF ZY ht hG adO Z6 qY hE with⟨o,ZQ,es,e⟩|⟨g2,ZQ,es,e,hs⟩|⟨g2,ch,v,ZQ,es,e,hn⟩|⟨Gt,l1,ZQ,es,wV,Xf,w2,evs,ρ1,e,e',agA,rD⟩
  .exact(vB hl e).elim
  .obtain⟨rfl,rfl⟩:=zu hl e;exact absurd hs (S9 hS (down I N0 _ _ hl))
  .exact(NJ hl e hn).elim
  obtain⟨rfl,rfl⟩:=zu hl e;have hown:=rD.owns ZY;have YF:=rD.shared ZY;refine⟨_,_,_,e',⟨rD.grow,rD.keep,rD.tape,?_,rD.os,rD.out,fun x hx=>?_⟩,rfl,rfl,?_⟩
  .obtain⟨k1,_,h2⟩:=rD.draw;omega
  .refine(rD.evs x hx).mono (fun c hc=>?_) fun c hc=>by rw[hown] at hc;exact hc
   obtain⟨b,hb⟩:=hc;rcases Classical.em (B b) with hlt|hge
   .exact .inl ((XK c).2 ((YF c).1 ⟨b,hlt,hb⟩))
   right;rw[<-hown];exact⟨b,hge,hb⟩
  rw[<-hown];refine(ih I N0 _ _ hl adN CV (aG hG rD.Ht) rfl agA rD.wr (aG adO rD.grow) fun c=>(XK c).trans (YF c).symm).bind fun O g' w' hE=>?_;obtain⟨a1,a2,a3,a4,a5,a6,hE⟩:=hE
  exact .stop fun w3 h3=>⟨a1,a2,a3,a4,a5,a6,⟨hE.g,hE.stop,hE.sr,hE.wr.rely (by
   have:(fun c=>S c\/O c)=fun c=>(∃b,B b/\a4 b=some c)\/a4.owns B c:=by
    funext c;rw[XK c,hE.own,hE.shared c,YF c]
   rwa [this] at h3),aG hE.vH h3.grow,hE.own,fun c=>(hE.shared c).trans (YF c),Rn.le_trans rD.le hE.le,aG rD.Ht hE.grow,hE.ok⟩⟩
end
section
variable{P:aL}{α β:Type}
end
section
variable{P:aL}{F:Nat->Bool}{B:Nat->Prop}{U ρ1:Rn}{lw kI w w1:ak}{main:Bool}
structure Kn(P:aL)(F:Nat->Bool)(B:Nat->Prop)(S:Nat->Prop)(lw0:ak)(ρ0:Rn)(O:Nat->Prop)(w':ak)(lw:ak)(U:Rn):Prop where
 wr:WR F P.globals.size B U lw w'
 vH:P.globals.size<=w'.heap.size
 own:O=U.owns B
 shared:∀c,S c↔∃b,B b/\U b=some c
 le:Rn.le ρ0 U
 grow:lw0.heap.size<=lw.heap.size
 ok:dv lw
theorem Kn.rely{S:Nat->Prop}{lw0:ak}{ρ0:Rn}{O:Nat->Prop}{w' w2:ak}(h:Kn P F B S lw0 ρ0 O w' lw U)(hr:iO (fun c=>S c\/O c) w' w2):Kn P F B S lw0 ρ0 O w2 lw U:=
 ⟨h.wr.rely (by
  have e:(fun c=>S c\/O c)=fun c=>(∃b,B b/\U b=some c)\/U.owns B c:=by funext c;rw[h.shared c,h.own]
  rwa [e] at hr),aG h.vH hr.grow,h.own,h.shared,h.le,h.grow,h.ok⟩
theorem Dv(T:Quiet P)(hF:uL P F)(hG:P.globals.size<=lw.heap.size){fn:dU}{kd:ki}(hE:kd≠.early)(hi:P.inits.idxOf? fn=none){c:Code}(hc:iG P F c=true)(hc':dX c=true){tmps bu:Array aj}(ha:iT F U tmps bu)
  (hw:WR F P.globals.size B U lw w) (Cl:P.globals.size<=w.heap.size) (cV:dv lw) {Q:Act->ak->Prop} (hQ:∀a W' I d,Q a (dn W' I d)->Q a W')
  (h:∀I d,c.wp P (fun e a W'=>e=.normal/\Q a W') ⟨tmps,[]⟩ (dn lw I d)) {S:Nat->Prop} (XK:∀c,S c↔∃b,B b/\U b=some c) (k:List py) (cs:List bT) :
  Walk P main S (fun O g' w'=>∃nS ld kI ρ1,g'=G (jm fn ld k .run kd) cs/\iT F ρ1 nS ld/\Q ⟨nS,[]⟩ kI/\Kn P F B S lw U O w' kI ρ1) (U.owns B) (G (jm fn bu (.code c::k) .run kd) cs) w:=by
 have hb:Bar P (fun g W=>∃a1,g=G ((Fr fn #[] [] .run).at a1 []) []/\Q a1 W) (G (Fr fn tmps [.code c] .run) []) lw:=by
  refine CG T ?_ ?_ ⟨⟨by simpa [G,Fr,jm,iQ] using hc',rfl⟩,by simp[G],.inl rfl⟩ cV rfl rfl fun I _=>?_
  .rintro g W I d ⟨a1,h1,h2⟩;exact⟨a1,h1,hQ _ _ _ _ h2⟩
  .rintro g W ⟨a1,rfl,_⟩;exact⟨rfl,rfl⟩
  obtain⟨e,a',w',⟨rfl,hq⟩,n,hn⟩:=h I lw.drawn (Fr fn #[] [] .run) [] [];exact⟨n,G ((Fr fn #[] [] .run).at a' []) [],w',hn,a',rfl,hq⟩
 have hns:∀g W,(∃a1,g=G ((Fr fn #[] [] .run).at a1 []) []/\Q a1 W)->¬OO g:=by
  rintro g W ⟨a1,rfl,_⟩ (hs|hs|⟨ch,hs,_⟩)
  .exact hs rfl
  .exact hs rfl
  cases hs
 have agB:SR P F U k kd cs (Fr fn tmps [.code c] .run) [] (jm fn bu (.code c::k) .run kd) cs:=.base (.run (todo:=[.code c]) ha (by simpa [iP] using hc)) hi;refine(Kr (main:=main) T hF hns hE (.inr ?_) hb ⟨⟨by simpa [G,Fr,jm,iQ] using hc',rfl⟩,by simp[G],.inl rfl⟩ cV hG rfl agB hw Cl XK).bind fun O g' w' hE=>?_
 .rintro g W ⟨a1,rfl,_⟩;rfl
 obtain⟨Gt,l1,kI,ρ1,wV,Xf,hE⟩:=hE;obtain⟨a1,hg,hq⟩:=hE.stop
 have hfl:Gt=(Fr fn #[] [] .run).at a1 []/\l1=[]:=by
  have h1:(G Gt l1).frame=(G ((Fr fn #[] [] .run).at a1 []) []).frame:=by rw[hg]
  have h2:(G Gt l1).callers=(G ((Fr fn #[] [] .run).at a1 []) []).callers:=by rw[hg]
  exact⟨h1,h2⟩
 obtain⟨h1,rfl⟩:=hfl;have ag4:Kn P F B S lw U O w' kI ρ1:=⟨hE.wr,hE.vH,hE.own,fun c=>(XK c).trans (hE.shared c).symm,hE.le,hE.grow,hE.ok⟩
 have Z6:=hE.sr;have EM:=hE.g;generalize ahk:([]:List bT)=l1 at Z6;cases Z6 with
 |up _ _ _ _=>cases ahk
 |base hfr hin=>
  cases hfr with
  |@ret fn1 nS ld Yr af0 SQ=>cases congrArg Frame.mode h1
  |@run fn1 nS ld Yr SQ hto=>
   have e1:fn1=fn:=congrArg Frame.fn h1;have e2:nS=a1.tmps:=congrArg Frame.tmps h1;have e3:Yr=[]:=congrArg Frame.todo h1;have e4:([]:List Deferred)=a1.defers:=congrArg Frame.defers h1;subst e1;subst e3;refine .stop fun w2 hr=>⟨nS,ld,kI,ρ1,EM,SQ,?_,ag4.rely hr⟩
   rw[e2,e4];exact hq
end
def CR:Loc->Option Nat
 |.cell a=>some a.block
 |.obj r=>some r
 |_=>none
structure PT(A:Nat->Prop)(S O:Nat->Nat->Prop)(B:Nat)(t:Trace):Prop where
 clean:∀said,¬Race said t
 known:∀i a c,touchAt t i=some a->CR a.loc=some c->Knows t 0 i\/∃g,A g/\t.g? i=some g/\(O g c\/(a.write=false/\S g c))
 wk:∀g,A g->∀i a c,touchAt t i=some a->CR a.loc=some c->S g c->a.write=true->Knows t g i
 ow:∀g,A g->∀i a c,touchAt t i=some a->CR a.loc=some c->O g c->t.g? i=some g
 over:∀i g,t.g? i=some g->g≠0->t.counts i->(∃j,t.g? j=some 0/\HappensBefore t i j)\/A g
 hears:Deaf t 0=0
 vG:∀g,A g->Deaf t g=0
 seen:∀op∈t,op.act.low B
 pos:∀g,A g->g≠0
section
variable{A A':Nat->Prop}{S O S' O':Nat->Nat->Prop}{B B':Nat}{t u:Trace}
theorem Ey{l:Loc}:l.isMemory=true↔∃c,CR l=some c:=by
 cases l<;>simp[Loc.isMemory,CR]
theorem Lc{l:Loc}{c:Nat}(h:CR l=some c)(hl:l.low B):c<B:=by
 cases l<;>simp only[CR,gP,reduceCtorEq] at h
 .subst h;exact hl
 subst h;exact hl
theorem Qm{op:MemOp}{x:Touch}{c:Nat}(h:op.act.touch?=some x)(hc:CR x.loc=some c)(hl:op.act.low B):c<B:=by
 obtain⟨g,fn,pos,act⟩:=op;cases act with
 |access e=>
  simp only[MemAct.touch?,gP] at h;subst h;exact Lc hc hl
 |mark m=>
  cases m<;>simp only[MemAct.touch?,gP,reduceCtorEq] at h<;>(subst h;exact Lc hc hl)
 |_=>cases h
theorem PT.WV(h:MH B t):PT (fun _=>False) S O B t:=by
 refine⟨h.clean,fun i a c ha hc=>.inl ?_,fun g hg=>hg.elim,fun g hg=>hg.elim,fun i g h1 h2 h3=>.inl (h.over i g h1 h2 h3),h.hears,fun g hg=>hg.elim,h.seen,fun g hg=>hg.elim⟩;rcases h.known i a ha (Ey.2 ⟨c,hc⟩) with hk|⟨hs,_⟩
 .exact hk
 exact hs.elim
theorem PT.past(h:PT A S O B t)(hA:∀g,¬A g):MH B t:=by
 refine⟨h.clean,fun i a ha hm=>.inl ?_,fun i g h1 h2 h3=>(h.over i g h1 h2 h3).resolve_right (hA g),h.hears,h.seen⟩;obtain⟨c,hc⟩:=Ey.1 hm;rcases h.known i a c ha hc with hk|⟨g,hg,_⟩
 .exact hk
 exact(hA g hg).elim
theorem PT.lt(h:PT A S O B t){i:Nat}{a:Touch}{c:Nat}(ha:touchAt t i=some a)(hc:CR a.loc=some c):c<B:=by
 obtain⟨x,hx,xm⟩:=touch_of ha;exact Qm xm hc (h.seen x (mem_of_getElem? hx))
theorem g?_app{i:Nat}{g:Nat}(h:t.g? i=some g):(t++u).g? i=some g:=by
 obtain⟨x,hx,hg⟩:=eH.1 h;rw[g?_old (lt_size_of_getElem? hx)];exact h
def J3(R W:Nat->Prop)(op:MemOp):Prop:=∀x,op.act.touch?=some x->x.kind=.plain/\∃c,CR x.loc=some c/\R c/\(x.write=true->W c)
def ou(op:MemOp):Prop:=op.act≠.mark .disable/\op.act≠.mark .enable
theorem iw(t:Trace)(g:Nat)(u:Trace)(hu:∀op∈u,ou op):Deaf (t++u) g=Deaf t g:=by
 have key:∀(l:List MemOp) (d:Nat),(∀op∈l,ou op)->l.foldl (deafStep g) d=d:=by
  intro l
  induction l with
  |nil=>intro d _;rfl
  |cons y l ih=>
   intro d hl;have hy:=hl y sN;rw[List.foldl_cons]
   have:deafStep g d y=d:=by
    unfold deafStep;split
    .rename_i e;exact absurd e hy.1
    .rename_i e;exact absurd e hy.2
    rfl
   rw[this];exact ih d fun op hop=>hl op (by simp[hop])
 have:=Deaf_append t g u.toList;simp only[Array.toArray_toList] at this;rw[this];exact key _ _ fun op hop=>hu op (by simpa using hop)
theorem rI{i:Nat}(hi:i<t.size):(t++u).counts i->t.counts i:=by
 rintro⟨x,hx,hm,hk⟩;refine⟨x,?_,hm,?_⟩
 .rw[act?_old hi] at hx;exact hx
 exact hk.imp id fun h=>(heard_old hi).1 h
theorem zU{i:Nat}(h:t.counts i):∃x c,touchAt t i=some x/\CR x.loc=some c:=by
 obtain⟨x,hx,hm,_⟩:=h;obtain⟨c,hc⟩:=Ey.1 hm;exact⟨x,c,hx,hc⟩
theorem PT.app0(h:PT A S O B t){R W:Nat->Prop}(hB:B<=B')(hu:∀op∈u,op.g=0/\J3 R W op/\ou op/\op.act.low B')(hR:∀g,A g->∀c,R c->¬O g c)(hW:∀g,A g->∀c,W c->¬S g c):PT A S O B' (t++u):=by
 refine⟨fun said=>noRace_append (h.clean said) (fun op hop=>(hu op hop).1) fun i a ha op hop b hb hc=>?_,fun i a c ha hc=>?_,fun g hg i a c ha hc hs hw=>?_,fun g hg i a c ha hc ho=>?_,fun i g h1 h2 h3=>?_,?_,fun g hg=>?_,?_,h.pos⟩
 .obtain⟨_,c,YY,hr,hwr⟩:=(hu op hop).2.1 b hb;rcases h.known i a c ha (hc.1▸YY) with hk|⟨g,hg,_,Lr⟩
  .exact hk
  rcases Lr with ho|⟨hw,hs⟩
  .exact absurd ho (hR g hg c hr)
  have r5:b.write=true:=by
   rcases hc.2.2.1 with h1|h1
   .rw[hw] at h1;cases h1
   exact h1
  exact absurd hs (hW g hg c (hwr r5))
 .obtain⟨x,hx,xm⟩:=touch_of ha;rcases il hx with⟨hi,hx'⟩|⟨_,Hw⟩
  .rcases h.known i a c (by rw[touchAt_of hx'];exact xm) hc with hk|⟨g,hg,NW,Lr⟩
   .exact .inl (hk.app u)
   exact .inr ⟨g,hg,g?_app NW,Lr⟩
  have:=knows_own hx;rw[(hu x Hw).1] at this;exact .inl this
 .obtain⟨x,hx,xm⟩:=touch_of ha;rcases il hx with⟨hi,hx'⟩|⟨_,Hw⟩
  .exact(h.wk g hg i a c (by rw[touchAt_of hx'];exact xm) hc hs hw).app u
  obtain⟨_,c',hc',_,hwr⟩:=(hu x Hw).2.1 a xm;rw[hc] at hc';cases hc';exact absurd hs (hW g hg c (hwr hw))
 .obtain⟨x,hx,xm⟩:=touch_of ha;rcases il hx with⟨hi,hx'⟩|⟨_,Hw⟩
  .exact g?_app (h.ow g hg i a c (by rw[touchAt_of hx'];exact xm) hc ho)
  obtain⟨_,c',hc',hr,_⟩:=(hu x Hw).2.1 a xm;rw[hc] at hc';cases hc';exact absurd ho (hR g hg c hr)
 .obtain⟨x,hx,Gm⟩:=eH.1 h1;rcases il hx with⟨hi,hx'⟩|⟨_,Hw⟩
  .rcases h.over i g (by rw[<-g?_old (u:=u) hi];exact h1) h2 (rI hi h3) with⟨j,hj,hb⟩|hA
   .exact .inl ⟨j,g?_app hj,hb_app u hb⟩
   exact .inr hA
  rw[(hu x Hw).1] at Gm;exact absurd Gm.symm h2
 .rw[iw _ _ _ fun op hop=>(hu op hop).2.2.1];exact h.hears
 .rw[iw _ _ _ fun op hop=>(hu op hop).2.2.1];exact h.vG g hg
 exact seen_app (fun op hop=>MemAct.low_mono hB (h.seen op hop)) fun op hop=>(hu op hop).2.2.2
theorem PT.appW(h:PT A S O B t){k:Nat}(hk:A k){W:Nat->Prop}(hB:B<=B')(hu:∀op∈u,op.g=k/\J3 (fun c=>S k c\/W c) W op/\ou op/\op.act.low B')
  (hW:∀c,W c->O k c\/B<=c) (hO:∀c,O k c->W c) (rE:∀c,W c->¬S k c) (hg:∀g,A g->g≠k->∀c,W c->¬S g c/\¬O g c) (hs:∀g,A g->g≠k->∀c,S k c->¬O g c) :
  PT A S (fun g=>if g=k then W else O g) B' (t++u):=by
 refine⟨fun said=>noRace_append (h.clean said) (fun op hop=>(hu op hop).1) fun i a ha op hop b hb hc=>?_,fun i a c ha hc=>?_,fun g NY i a c ha hc hs' hw=>?_,fun g NY i a c ha hc ho=>?_,fun i g h1 h2 h3=>?_,?_,fun g NY=>?_,?_,h.pos⟩
 .obtain⟨_,c,YY,hr,hwr⟩:=(hu op hop).2.1 b hb;have hac:CR a.loc=some c:=hc.1▸YY;have hlt:=h.lt ha hac
  have own:O k c->Knows t k i:=fun ho=>by
   have:=h.ow k hk i a c ha hac ho;obtain⟨x,hx,Gm⟩:=eH.1 this;have:=knows_own hx;rwa [Gm] at this
  rcases hr with hr|hr
  .rcases hc.2.2.1 with h1|h1
   .exact h.wk k hk i a c ha hac hr h1
   exact absurd hr (rE c (hwr h1))
  rcases hW c hr with ho|hge
  .exact own ho
  omega
 .obtain⟨x,hx,xm⟩:=touch_of ha;rcases il hx with⟨hi,hx'⟩|⟨_,Hw⟩
  .rcases h.known i a c (by rw[touchAt_of hx'];exact xm) hc with pP|⟨g,NY,NW,Lr⟩
   .exact .inl (pP.app u)
   refine .inr ⟨g,NY,g?_app NW,Lr.imp (fun ho=>?_) id⟩
   by_cases e:g=k
   .subst e;simp only[if_true];exact hO c ho
   simp only[e,if_false];exact ho
  obtain⟨_,c',hc',hr,hwr⟩:=(hu x Hw).2.1 a xm;rw[hc] at hc';cases hc';refine .inr ⟨k,hk,by simp only[Trace.g?,hx,dJ];rw[(hu x Hw).1],?_⟩;simp only[if_true];rcases hr with hr|hr
  .cases hw:a.write with
   |false=>exact .inr ⟨rfl,hr⟩
   |true=>exact .inl (hwr hw)
  exact .inl hr
 .obtain⟨x,hx,xm⟩:=touch_of ha;rcases il hx with⟨hi,hx'⟩|⟨_,Hw⟩
  .exact(h.wk g NY i a c (by rw[touchAt_of hx'];exact xm) hc hs' hw).app u
  obtain⟨_,c',hc',_,hwr⟩:=(hu x Hw).2.1 a xm;rw[hc] at hc';cases hc'
  by_cases e:g=k
  .subst e;exact absurd hs' (rE c (hwr hw))
  exact absurd hs' (hg g NY e c (hwr hw)).1
 .obtain⟨x,hx,xm⟩:=touch_of ha
  by_cases e:g=k
  .subst e;simp only[if_true] at ho;rcases il hx with⟨hi,hx'⟩|⟨_,Hw⟩
   .have ha':touchAt t i=some a:=by rw[touchAt_of hx'];exact xm
    rcases hW c ho with ho'|hge
    .exact g?_app (h.ow g NY i a c ha' hc ho')
    have:=h.lt ha' hc;omega
   simp only[Trace.g?,hx,dJ];rw[(hu x Hw).1]
  simp only[e,if_false] at ho;rcases il hx with⟨hi,hx'⟩|⟨_,Hw⟩
  .exact g?_app (h.ow g NY i a c (by rw[touchAt_of hx'];exact xm) hc ho)
  obtain⟨_,c',hc',hr,_⟩:=(hu x Hw).2.1 a xm;rw[hc] at hc';cases hc';rcases hr with hr|hr
  .exact absurd ho (hs g NY e c hr)
  exact absurd ho (hg g NY e c hr).2
 .obtain⟨x,hx,Gm⟩:=eH.1 h1;rcases il hx with⟨hi,hx'⟩|⟨_,Hw⟩
  .rcases h.over i g (by rw[<-g?_old (u:=u) hi];exact h1) h2 (rI hi h3) with⟨j,hj,hb⟩|hA
   .exact .inl ⟨j,g?_app hj,hb_app u hb⟩
   exact .inr hA
  rw[(hu x Hw).1] at Gm;exact .inr (Gm▸hk)
 .rw[iw _ _ _ fun op hop=>(hu op hop).2.2.1];exact h.hears
 .rw[iw _ _ _ fun op hop=>(hu op hop).2.2.1];exact h.vG g NY
 exact seen_app (fun op hop=>MemAct.low_mono hB (h.seen op hop)) fun op hop=>(hu op hop).2.2.2
theorem fj(hn:∀op∈u,op.act.touch?=none){i:Nat}{a:Touch}(h:touchAt (t++u) i=some a):i<t.size/\touchAt t i=some a:=by
 obtain⟨x,hx,xm⟩:=touch_of h;rcases il hx with⟨hi,hx'⟩|⟨_,Hw⟩
 .exact⟨hi,by rw[touchAt_of hx'];exact xm⟩
 rw[hn x Hw] at xm;cases xm
theorem Cb(h:∀said,¬Race said t)(hn:∀op∈u,op.act.touch?=none)(said:Bool):¬Race said (t++u):=by
 rintro⟨i,j,Us,⟨a,b,ha,hb,hc⟩,n1,n2⟩;obtain⟨hi,ha'⟩:=fj hn ha;obtain⟨hj,hb'⟩:=fj hn hb;exact h said ⟨i,j,Us,⟨a,b,ha',hb',hc⟩,fun e=>n1 (hb_app u e),fun e=>n2 (hb_app u e)⟩
theorem PT.appMute(h:PT A S O B t)(hB:B<=B')(hn:∀op∈u,op.act.touch?=none/\ou op/\op.act.low B')(hA:∀g,A' g->A g)(hK:∀g,A g->¬A' g->∀i,Knows t g i->Knows (t++u) 0 i/\∃j,(t++u).g? j=some 0/\HappensBefore (t++u) i j):PT A' S O B' (t++u):=by
 have hn':=fun op hop=>(hn op hop).1;refine⟨Cb h.clean hn',fun i a c ha hc=>?_,fun g hg i a c ha hc hs hw=>?_,fun g hg i a c ha hc ho=>?_,fun i g h1 h2 h3=>?_,?_,fun g hg=>?_,?_,fun g hg=>h.pos g (hA g hg)⟩
 .obtain⟨hi,ha'⟩:=fj hn' ha;rcases h.known i a c ha' hc with hk|⟨g,hg,NW,Lr⟩
  .exact .inl (hk.app u)
  by_cases FY:A' g
  .exact .inr ⟨g,FY,g?_app NW,Lr⟩
  obtain⟨x,hx,Gm⟩:=eH.1 NW;have hkn:=knows_own hx;rw[Gm] at hkn;exact .inl (hK g hg FY i hkn).1
 .obtain⟨hi,ha'⟩:=fj hn' ha;exact(h.wk g (hA g hg) i a c ha' hc hs hw).app u
 .obtain⟨hi,ha'⟩:=fj hn' ha;exact g?_app (h.ow g (hA g hg) i a c ha' hc ho)
 .obtain⟨x,c,hx,_⟩:=zU h3;obtain⟨hi,_⟩:=fj hn' hx;have NW:t.g? i=some g:=by rw[<-g?_old (u:=u) hi];exact h1
  rcases h.over i g NW h2 (rI hi h3) with⟨j,hj,hb⟩|NY
  .exact .inl ⟨j,g?_app hj,hb_app u hb⟩
  by_cases FY:A' g
  .exact .inr FY
  obtain⟨x,hx,Gm⟩:=eH.1 NW;have hkn:=knows_own hx;rw[Gm] at hkn;exact .inl (hK g NY FY i hkn).2
 .rw[iw _ _ _ fun op hop=>(hn op hop).2.1];exact h.hears
 .rw[iw _ _ _ fun op hop=>(hn op hop).2.1];exact h.vG g (hA g hg)
 exact seen_app (fun op hop=>MemAct.low_mono hB (h.seen op hop)) fun op hop=>(hn op hop).2.2
end
section
variable{A A':Nat->Prop}{S O S' O':Nat->Nat->Prop}{B B':Nat}{t u:Trace}
theorem U_{g:Nat}(hu:∀op∈u,ou op):∀m,m<=u.size->(t++u).deaf g (t.size+m)=Deaf t g:=by
 intro m
 induction m with
 |zero=>intro _;exact deaf_old (aJ _)
 |succ m ih=>
  intro hm
  have aau:(t++u)[t.size+m]?=some u[m]:=by
   rw[Array.getElem?_append_right oN,sB,aO oN]
  rw[show t.size+(m+1)=t.size+m+1 by omega,deaf_succ aau,ih oN];have hy:=hu u[m] (Array.getElem_mem _);unfold deafStep;split
  .rename_i e;exact absurd e hy.1
  .rename_i e;exact absurd e hy.2
  rfl
theorem heard_new(hu:∀op∈u,ou op){m:Nat}{x:MemOp}(hx:u[m]?=some x)(hd:Deaf t x.g=0):(t++u).heard (t.size+m):=by
 have hm:m<u.size:=(ah.1 hx).1;refine⟨x.g,?_,?_⟩
 .rw[Trace.g?,Array.getElem?_append_right oN,sB,hx];rfl
 rw[U_ hu m oN];exact hd
theorem UB(hu:∀op∈u,ou op){k c n m m':Nat}{x y:MemOp}(hx:u[m]?=some x)(hy:u[m']?=some y)(NQ:x.g=k)(xm:x.act=.send c n)(SD:y.g=0)(hya:y.act=.recvDone c n)
  (MW:Deaf t k=0) (hd0:Deaf t 0=0) {i:Nat} (h:Knows t k i):Knows (t++u) 0 i/\∃j,(t++u).g? j=some 0/\HappensBefore (t++u) i j:=by
 have hxp:(t++u)[t.size+m]?=some x:=by rw[Array.getElem?_append_right oN,sB,hx]
 have hyp:(t++u)[t.size+m']?=some y:=by rw[Array.getElem?_append_right oN,sB,hy]
 have h1:=h.hb_new oN hxp NQ;have e:HappensBefore (t++u) (t.size+m) (t.size+m'):=.single (.inr ⟨.handOver (c:=c) (k:=n) (by rw[act?_of hxp,xm]) (by rw[act?_of hyp,hya]),heard_new hu hx (by rw[NQ];exact MW),heard_new hu hy (by rw[SD];exact hd0)⟩);have h2:=h1.trans e;exact⟨⟨_,y,hyp,SD,.inr h2⟩,_,by simp[Trace.g?,hyp,SD],h2⟩
def Ip(k c n:Nat)(u:Trace):Prop:=∃f1 p1 f2 p2 f3 p3 f4 p4 cap,u = #[{ g:=k,fn:=f1,pos:=p1,act:=.send c n },{ g:=0,fn:=f2,pos:=p2,act:=.recv c n cap },{ g:=k,fn:=f3,pos:=p3,act:=.sendDone c n },{ g:=0,fn:=f4,pos:=p4,act:=.recvDone c n }]
theorem Ip.mute{k c n:Nat}(h:Ip k c n u)(hc:c<B'):∀op∈u,op.act.touch?=none/\ou op/\op.act.low B':=by
 obtain⟨f1,p1,f2,p2,f3,p3,f4,p4,cap,rfl⟩:=h;intro op hop;simp only[eR,cy,gJ,or_false] at hop;rcases hop with rfl|rfl|rfl|rfl<;>exact⟨rfl,⟨sN,sN⟩,hc⟩
theorem PT.acr(h:PT A S O B t)(hB:B<=B'){k c n:Nat}(hu:Ip k c n u)(hc:c<B')(hk:A k)(hA:∀g,A' g↔A g\/False):PT A' S O B' (t++u):=
 h.appMute hB (hu.mute hc) (fun g hg=>((hA g).1 hg).resolve_right id) fun g hg hn=>absurd ((hA g).2 (.inl hg)) hn
theorem PT.Qw(h:PT A S O B t)(hB:B<=B'){k c n:Nat}(hu:Ip k c n u)(hc:c<B')(hk:A k):PT (fun g=>A g/\g≠k) S O B' (t++u):=by
 refine h.appMute hB (hu.mute hc) (fun g hg=>hg.1) fun g hg hn i hkn=>?_;have e:g=k:=Classical.byContradiction fun e=>hn ⟨hg,e⟩;subst e;have hw:=fun op hop=>(hu.mute hc op hop).2.1;have hd0:=h.hears;have MW:=h.vG g hk;obtain⟨f1,p1,f2,p2,f3,p3,f4,p4,cap,rfl⟩:=hu;exact UB hw (m:=0) (m':=3) rfl rfl rfl rfl rfl rfl MW hd0 hkn
theorem PT.spawn(h:PT A S O B t)(hB:B<=B'){k:Nat}(hk:¬A k)(hk0:k≠0)(MW:Deaf t k=0){x y:MemOp}(hx:x.g=0/\x.act=.go k)(hy:y.g=k/\y.act=.start){Sk:Nat->Prop}(hs:∀g,A g->∀c,Sk c->¬O g c) :
  PT (fun g=>A g\/g=k) (fun g=>if g=k then Sk else S g) (fun g=>if g=k then fun _=>False else O g) B' (t++#[x,y]):=by
 have hn:∀op∈#[x,y],op.act.touch?=none/\ou op/\op.act.low B':=by
  intro op hop;simp only[eR,cy,gJ,or_false] at hop;rcases hop with rfl|rfl
  .rw[hx.2];exact⟨rfl,⟨by rw[hx.2];simp,by rw[hx.2];simp⟩,trivial⟩
  rw[hy.2];exact⟨rfl,⟨by rw[hy.2];simp,by rw[hy.2];simp⟩,trivial⟩
 have hn':=fun op hop=>(hn op hop).1;have h1:PT A S O B' (t++#[x,y]):=h.appMute hB hn (fun g hg=>hg) fun g hg hn=>absurd hg hn;have hne:∀g,A g->g≠k:=fun g hg e=>hk (e▸hg);refine⟨h1.clean,fun i a c ha hc=>?_,fun g hg i a c ha hc hs' hw=>?_,fun g hg i a c ha hc ho=>?_,fun i g e1 e2 e3=>(h1.over i g e1 e2 e3).imp id .inl,h1.hears,fun g hg=>?_,h1.seen,fun g hg=>?_⟩
 .rcases h1.known i a c ha hc with pP|⟨g,hg,NW,Lr⟩
  .exact .inl pP
  exact .inr ⟨g,.inl hg,NW,by simpa only[hne g hg,if_false] using Lr⟩
 .by_cases e:g=k
  .subst e;simp only[if_true] at hs';obtain⟨_,ha'⟩:=fj hn' ha;rcases h.known i a c ha' hc with pP|⟨g',FY,_,Lr⟩
   .exact Go.ConcN.fork_knows hx hy h.hears MW pP
   rcases Lr with ho|⟨hw',_⟩
   .exact absurd ho (hs g' FY c hs')
   rw[hw] at hw';cases hw'
  simp only[e,if_false] at hs';exact h1.wk g (hg.resolve_right e) i a c ha hc hs' hw
 .by_cases e:g=k
  .simp only[e,if_true] at ho
  simp only[e,if_false] at ho;exact h1.ow g (hg.resolve_right e) i a c ha hc ho
 .rcases hg with hg|rfl
  .exact h1.vG g hg
  rw[iw _ _ _ fun op hop=>(hn op hop).2.1];exact MW
 rcases hg with hg|rfl
 .exact h1.pos g hg
 exact hk0
end
section
variable{P:aL}
theorem Fl(q:dH){α:Type}(f:Nat->iN α)(n:Nat)(hn:0<n)(hq:q=.select n\/∃what,q=.extern what n)(w:ak):∃a d,a<n/\(Am q >>= f).run P w=(f a).run P (w.at d):=by
 have e:(Am q >>= f).run P w=if q.forced then(f 0).run P w else(f (q.cut (w.tape w.drawn q))).run P { w with drawn:=w.drawn+1 }:=rfl
 rw[e]
 by_cases hf:q.forced=true
 .exact⟨0,w.drawn,hn,by rw[if_pos hf];rfl⟩
 refine⟨_,w.drawn+1,?_,by rw[if_neg hf];rfl⟩;rcases hq with rfl|⟨what,rfl⟩
 .simp only[Question.cut];exact Nat.mod_lt _ hn
 simp only[Question.cut];rw[if_neg oN];exact Nat.mod_lt _ hn
def I6(ready:List (Nat × m7 × List Way)):iN (Nat × m7 × Way):=do
 let a <-Am (.select ready.length);let (k,c,ws):=ready.getD a (0,default,[])
 let b <-Am (.extern "which waiting goroutine is the partner" ws.length)
 pure (k,c,ws.getD b .closed)
theorem Tw(ready:List (Nat × m7 × List Way))(hne:ready≠[])(hw:∀x∈ready,x.2.2≠[])(w:ak) :
  ∃x∈ready,∃y∈x.2.2,∃d,(I6 ready).run P w=.ok (x.1,x.2.1,y) (w.at d):=by
 unfold I6
 obtain⟨a,d,ha,e⟩:=Fl (P:=P) (.select ready.length) (fun a=>do
  let (k,c,ws):=ready.getD a (0,default,[])
  let b <-Am (.extern "which waiting goroutine is the partner" ws.length)
  pure (k,c,ws.getD b .closed)) ready.length (cB.2 hne) (.inl rfl) w
 rw[e];have hx:ready.getD a (0,default,[])=ready[a]:=by simp[List.getD,ha]
 rw[hx];have hmem:ready[a]∈ready:=bG ha;generalize ready[a]=x at hmem;obtain⟨k,c,ws⟩:=x;have Kb:=hw _ hmem;dsimp only at Kb ⊢
 obtain⟨b,d',hb,e2⟩:=Fl (P:=P) (.extern "which waiting goroutine is the partner" ws.length) (fun b=>(pure (k,c,ws.getD b .closed):iN (Nat × m7 × Way))) ws.length (cB.2 Kb) (.inr ⟨_,rfl⟩) (w.at d);refine⟨_,hmem,ws[b],bG hb,d',?_⟩;rw[e2];have:ws.getD b .closed=ws[b]:=by simp[List.getD,hb]
 rw[this];rfl
variable{gs:Array aC}{w w₁:ak}{sl:Option (Nat × Nat)}{i:Nat}{g g₂:aC}{es:Array gq}{c0 c1 s0 r0 s1 r1:Nat}{t0 t1:Bool}{z0 z1:aj}
theorem sF{w:ak}{gs:Array aC}{c s r:Nat}{tm:Bool}{z:aj}(hc:w.heap[c]?=some (.chan 0 #[] false s r tm)):ways w gs (rcase c z)=(xe gs c true).map fun(h,k)=>Way.partner h k:=by
 simp only[ways,rcase,hc];cases xe gs c true with
 |nil=>simp
 |cons p ps=>simp
theorem Gv(hi:gs[i]?=some g)(h:fe P (i==0) g w=.comm g₂ #[rcase c0 z0,rcase c1 z1] true .select w₁ es)
  (h0:w₁.heap[c0]?=some (.chan 0 #[] false s0 r0 t0)) (h1:w₁.heap[c1]?=some (.chan 0 #[] false s1 r1 t1))
  (hne:xe (gs.setIfInBounds i ph) c0 true≠[]\/xe (gs.setIfInBounds i ph) c1 true≠[])
  (hall:∀c,c=c0\/c=c1->∀j k,(j,k)∈xe (gs.setIfInBounds i ph) c true->k=0/\j≠i/\∃gj vj zj shj,gs[j]?=some (iB gj #[nP c vj zj] shj)) :
  ∃(kk c s r:Nat) (tm:Bool) (j:Nat) (gj:aC) (vj zj:aj) (shj:CommShape) (d:Nat),((kk=0/\c=c0/\s=s0/\r=r0/\tm=t0)\/(kk=1/\c=c1/\s=s1/\r=r1/\tm=t1))/\j≠i/\gs[j]?=some (iB gj #[nP c vj zj] shj)/\
   runT P (crowd gs w sl) i=(.next (crowd ((gs.setIfInBounds j (gj.finishComm P #[nP c vj zj] shj 0 ar false)).setIfInBounds i (g₂.finishComm P #[rcase c0 z0,rcase c1 z1] .select kk vj true)) ((w₁.at d).setChan c 0 #[] false (s+1) (r+1) tm) sl),
    iC i g.frame.fn g.frame.place es++#[{ g:=j,fn:=gj.frame.fn,pos:=gj.frame.place,act:=.send c s },{ g:=i,fn:=g₂.frame.fn,pos:=g₂.frame.place,act:=.recv c r 0 },
     { g:=j,fn:=gj.frame.fn,pos:=gj.frame.place,act:=.sendDone c s },{ g:=i,fn:=g₂.frame.fn,pos:=g₂.frame.place,act:=.recvDone c r }]):=by
 have hw0:=sF (gs:=gs.setIfInBounds i ph) (z:=z0) h0;have hw1:=sF (gs:=gs.setIfInBounds i ph) (z:=z1) h1;generalize hL:((#[rcase c0 z0,rcase c1 z1].zipIdx.toList.map fun(c,k)=>(k,c,ways w₁ (gs.setIfInBounds i ph) c)).filter fun(_,_,ws)=>!ws.isEmpty)=L
 have hmem:∀x,x∈L↔(x=(0,rcase c0 z0,ways w₁ (gs.setIfInBounds i ph) (rcase c0 z0))\/x=(1,rcase c1 z1,ways w₁ (gs.setIfInBounds i ph) (rcase c1 z1)))/\x.2.2≠[]:=by
  intro x;rw[<-hL];simp[List.mem_filter]
 have ad8:L≠[]:=by
  intro e;rcases hne with hn|hn
  .have:=(hmem _).2 ⟨.inl rfl,by rw[hw0];simpa using hn⟩;rw[e] at this;cases this
  have:=(hmem _).2 ⟨.inr rfl,by rw[hw1];simpa using hn⟩;rw[e] at this;cases this
 obtain⟨x,hx,y,hy,d,YI⟩:=Tw (P:=P) L ad8 (fun x hx=>((hmem x).1 hx).2) w₁
 have aap : #[rcase c0 z0,rcase c1 z1].any (illMade w₁)=false:=by
  refine any_ill fun cc hcc=>?_;simp only[eR,cy,gJ,or_false] at hcc;rcases hcc with rfl|rfl
  .exact made_recv z0 h0
  exact made_recv z1 h1
 have key:∀(kk c s r:Nat) (tm:Bool) (z:aj),w₁.heap[c]?=some (.chan 0 #[] false s r tm)->(c=c0\/c=c1)->∀y,y∈((xe (gs.setIfInBounds i ph) c true).map fun(h,k)=>Way.partner h k)->(I6 L).run P w₁=.ok (kk,rcase c z,y) (w₁.at d)->
   ∃(j:Nat) (gj:aC) (vj zj:aj) (shj:CommShape),j≠i/\gs[j]?=some (iB gj #[nP c vj zj] shj)/\
   runT P (crowd gs w sl) i=(.next (crowd ((gs.setIfInBounds j (gj.finishComm P #[nP c vj zj] shj 0 ar false)).setIfInBounds i (g₂.finishComm P #[rcase c0 z0,rcase c1 z1] .select kk vj true)) ((w₁.at d).setChan c 0 #[] false (s+1) (r+1) tm) sl),
    iC i g.frame.fn g.frame.place es++#[{ g:=j,fn:=gj.frame.fn,pos:=gj.frame.place,act:=.send c s },{ g:=i,fn:=g₂.frame.fn,pos:=g₂.frame.place,act:=.recv c r 0 },
     { g:=j,fn:=gj.frame.fn,pos:=gj.frame.place,act:=.sendDone c s },{ g:=i,fn:=g₂.frame.fn,pos:=g₂.frame.place,act:=.recvDone c r }]):=by
  intro kk c s r tm z hc hcc y hy SI;obtain⟨⟨j,k⟩,hjk,rfl⟩:=List.mem_map.1 hy;obtain⟨rfl,Us,gj,vj,zj,shj,hj⟩:=hall c hcc j k hjk;refine⟨j,gj,vj,zj,shj,Us,hj,?_⟩;have hj':=stand_get (i:=i) Us hj;have hfp:=finishPartner_at P (gs.setIfInBounds i ph) hj' (cs:=#[nP c vj zj]) (sh:=shj) rfl 0 ar;have hgd:(gs.setIfInBounds i ph).getD j default=iB gj #[nP c vj zj] shj:=by rw[aY,hj'];rfl
  have iH:offeredValue (gs.setIfInBounds i ph) j 0=vj:=by simp[offeredValue,hj',iB,nP]
  rw[Go.Conc.runT_crowd_comm hi h];unfold communicate;unfold I6 at SI
  have hLe:L.isEmpty=false:=by cases L with
   |nil=>exact absurd rfl ad8
   |cons a l=>rfl
  simp only[hL,hLe,bE,if_false,SI];have hcd:(w₁.at d).heap[c]?=some (.chan 0 #[] false s r tm):=hc;rw[if_neg]
  .simp[rcase,hcd,hfp,hgd,iH,set_stand2,nP,iB,World.setChan,crowd];rfl
  rw[Bool.not_eq_true];exact aap
 rcases((hmem x).1 hx).1 with rfl|rfl
 .obtain⟨j,gj,vj,zj,shj,h5,h6,h7⟩:=key 0 c0 s0 r0 t0 z0 h0 (.inl rfl) y (by rw[<-hw0];exact hy) YI;exact⟨0,c0,s0,r0,t0,j,gj,vj,zj,shj,d,.inl ⟨rfl,rfl,rfl,rfl,rfl⟩,h5,h6,h7⟩
 obtain⟨j,gj,vj,zj,shj,h5,h6,h7⟩:=key 1 c1 s1 r1 t1 z1 h1 (.inr rfl) y (by rw[<-hw1];exact hy) YI;exact⟨1,c1,s1,r1,t1,j,gj,vj,zj,shj,d,.inr ⟨rfl,rfl,rfl,rfl,rfl⟩,h5,h6,h7⟩
end
inductive oZ{α:Type}(R:α->α->Prop):List α->List α->Prop
 |nil:oZ R [] []
 |cons {x y:α} {l m:List α}:R x y->oZ R l m->oZ R (x::l) (y::m)
inductive LT{α:Type}(D E:α->α->Prop):List α->List α->Prop
 |drop {x:α} {l l':List α}:oZ E l' l->LT D E l' (x::l)
 |head {x x':α} {l l':List α}:D x' x->oZ E l' l->LT D E (x'::l') (x::l)
 |tail {x x':α} {l l':List α}:E x' x->LT D E l' l->LT D E (x'::l') (x::l)
section
variable{α:Type}{D E:α->α->Prop}
theorem oZ.refl(hr:∀x,E x x):∀l,oZ E l l
 |[]=>.nil
 |x::l=>.cons (hr x) (oZ.refl hr l)
theorem oZ.trans(ht:∀x y z,E x y->E y z->E x z){a b c:List α}(h:oZ E a b):oZ E b c->oZ E a c:=by
 induction h generalizing c with
 |nil=>intro h;exact h
 |cons h1 _ ih=>intro h2;cases h2 with|cons h3 h4=>exact .cons (ht _ _ _ h1 h3) (ih h4)
theorem LT.shift(ht:∀x y z,E x y->E y z->E x z)(hd:∀x y z,D x y->E y z->D x z){a b c:List α}(h:LT D E a b):oZ E b c->LT D E a c:=by
 induction h generalizing c with
 |drop h=>intro h2;cases h2 with|cons h3 h4=>exact .drop (h.trans ht h4)
 |head h1 h=>intro h2;cases h2 with|cons h3 h4=>exact .head (hd _ _ _ h1 h3) (h.trans ht h4)
 |tail h1 _ ih=>intro h2;cases h2 with|cons h3 h4=>exact .tail (ht _ _ _ h1 h3) (ih h4)
theorem Bt(ht:∀x y z,E x y->E y z->E x z)(hd:∀x y z,D x y->E y z->D x z){l l':List α}(h:Acc (LT D E) l)(he:oZ E l' l):Acc (LT D E) l':=
 ⟨_,fun m hm=>h.inv (hm.shift ht hd he)⟩
theorem FN(hr:∀x,E x x)(ht:∀x y z,E x y->E y z->E x z)(hd:∀x y z,D x y->E y z->D x z):∀l:List α,(∀x∈l,Acc D x)->Acc (LT D E) l
 |[],_=>⟨_,fun m hm=>by cases hm⟩
 |x::l,h=>by
  have hx:=h x sN;have hl:=FN hr ht hd l fun y hy=>h y (by simp[hy]);clear h
  induction hx generalizing l with
  |intro x _ ihx=>
   induction hl with
   |intro l hl ihl=>
    refine⟨_,fun m hm=>?_⟩;have yg:Acc (LT D E) l:=⟨_,hl⟩
    cases hm with
    |drop h=>exact Bt ht hd yg h
    |head h1 h2=>exact ihx _ h1 _ (Bt ht hd yg h2)
    |tail h1 h2=>exact Bt ht hd (ihl _ h2) (.cons h1 (.refl hr _))
theorem oZ.of_map{f:α->α}(h:∀x,E (f x) x):∀l:List α,oZ E (l.map f) l
 |[]=>.nil
 |x::l=>.cons (h x) (oZ.of_map h l)
theorem LT.mid{f:α->α}(h:∀x,E (f x) x){x x':α}(hd:D x' x)(l2:List α):∀l1:List α,LT D E (l1.map f++x'::l2.map f) (l1++x::l2)
 |[]=>.head hd (.of_map h l2)
 |y::l=>.tail (h y) (LT.mid h hd l2 l)
end
section
variable(P:aL)(c0 c1:Nat)
def zS:Value:=.tuple #[]
def AtSend(c:Nat)(v:aj)(g:aC):Prop:=g.status=.running/\g.dying=none/\g.offers=none/\∀w,fe P false g w=.comm g #[nP c v zS] true .send w #[]
inductive gU(S:Nat->Prop)(p:aj):Bool->(Nat->Prop)->aC->ak->Prop
 |step {b:Bool} {O:Nat->Prop} {g:aC} {w:ak}:g.status=.running->g.dying=none->
   (∀w1,iO (fun c=>S c\/O c) w w1->∃g2 w2 es,fe P false g w1=.go g2 w2 es/\J8 S O w1 w2 es/\g2.status=.running/\g2.dying=none)->
   (∀w1,iO (fun c=>S c\/O c) w w1->∀g2 w2 es,fe P false g w1=.go g2 w2 es->gU S p b (own O w1 w2) g2 w2)->gU S p b O g w
 |BN {O:Nat->Prop} {g:aC} {w:ak}:AtSend P c0 p g->gU S p false O (fg g ar) w->gU S p true O g w
 |BM {O:Nat->Prop} {g:aC} {w:ak} {n:Nat}:AtSend P c1 (.bool true) g->QuitsD P n 0 (fg g ar)->gU S p false O g w
theorem gU.rely{S:Nat->Prop}{p:aj}{b:Bool}{O:Nat->Prop}{g:aC}{w:ak}(h:gU P c0 c1 S p b O g w):∀ {w1:ak},iO (fun c=>S c\/O c) w w1->gU P c0 c1 S p b O g w1:=by
 induction h with
 |step a b c d _=>intro w1 hr;exact .step a b (fun w2 h2=>c w2 (hr.trans h2)) fun w2 h2=>d w2 (hr.trans h2)
 |BN h _ ih=>intro w1 hr;exact .BN h (ih hr)
 |BM h hq=>intro w1 hr;exact .BM h hq
theorem gU.Jb{S:Nat->Prop}{p:aj}{b:Bool}{Stop:(Nat->Prop)->aC->ak->Prop}{O:Nat->Prop}{g:aC}{w:ak}(h:Walk P false S Stop O g w)(k:∀O g w,Stop O g w->gU P c0 c1 S p b O g w):gU P c0 c1 S p b O g w:=by
 induction h with
 |@stop O g w h=>exact k _ _ _ (h w (.refl _ _))
 |step a b c d ih=>exact .step a b c ih
structure X where
 id:Nat
 S:Nat->Prop
 p:aj
 b:Bool
 O:Nat->Prop
 g:aC
 w:ak
def X.at(w:ak)(x:X):X:={ x with w:=w }
inductive WS:X->Prop
 |run {x:X}:gU P c0 c1 x.S x.p x.b x.O x.g x.w->WS x
 |uv {x:X} {g:aC}:x.b=true->AtSend P c0 x.p g->gU P c0 c1 x.S x.p false x.O (fg g ar) x.w->x.g=iB g #[nP c0 x.p zS] .send->WS x
 |uu {x:X} {g:aC} {n:Nat}:x.b=false->AtSend P c1 (.bool true) g->QuitsD P n 0 (fg g ar)->x.g=iB g #[nP c1 (.bool true) zS] .send->WS x
def Sh(x' x:X):Prop:=∃w,iO (fun c=>x.S c\/x.O c) x.w w/\x'=x.at w
inductive Dn:X->X->Prop
 |step {x x':X} {w1 w2:ak} {g2:aC} {es:Array gq}:x.g.status=.running->iO (fun c=>x.S c\/x.O c) x.w w1->fe P false x.g w1=.go g2 w2 es->Sh x' { x with O:=own x.O w1 w2,g:=g2,w:=w2 }->Dn x' x
 |zg {x x':X} {c:Nat} {v:aj}:AtSend P c v x.g->Sh x' { x with g:=iB x.g #[nP c v zS] .send }->Dn x' x
 |aH {x x':X} {g:aC}:x.b=true->AtSend P c0 x.p g->(x.g=g\/x.g=iB g #[nP c0 x.p zS] .send)->Sh x' { x with b:=false,g:=fg g ar }->Dn x' x
theorem mR(x:X):Sh x x:=⟨x.w,.refl _ _,rfl⟩
theorem oI(x y z:X)(h:Sh x y)(h':Sh y z):Sh x z:=by
 obtain⟨w,hr,rfl⟩:=h;obtain⟨w',hr',rfl⟩:=h';exact⟨w,hr'.trans hr,rfl⟩
theorem Fb(x y z:X)(h:Dn P c0 x y)(h':Sh y z):Dn P c0 x z:=by
 obtain⟨w,hr,rfl⟩:=h';cases h with
 |step h1 h2 h3 h4=>exact .step h1 (hr.trans h2) h3 h4
 |zg h1 h2=>
  obtain⟨w2,hr2,rfl⟩:=h2;exact .zg h1 ⟨w2,hr.trans hr2,rfl⟩
 |aH h1 h2 h3 h4=>
  obtain⟨w2,hr2,rfl⟩:=h4;exact .aH h1 h2 h3 ⟨w2,hr.trans hr2,rfl⟩
theorem FO{x x':X}(h:Acc (Dn P c0) x)(he:Sh x' x):Acc (Dn P c0) x':=⟨_,fun y hy=>h.inv (Fb P c0 _ _ _ hy he)⟩
theorem sj{c c':Nat}{v v':aj}{g:aC}{cs:Array m7}{sh:CommShape}(h:AtSend P c v (iB g cs sh)):False:=by cases h.1
theorem Bq{S:Nat->Prop}{p:aj}{b:Bool}{O:Nat->Prop}{g:aC}{w:ak}(h:gU P c0 c1 S p b O g w)(id:Nat):Acc (Dn P c0) ⟨id,S,p,b,O,g,w⟩:=by
 induction h with
 |@step b O g w hr hd hc hk ih=>
  refine⟨_,fun y hy=>?_⟩;obtain⟨g2,w2,es,he,_⟩:=hc w (.refl _ _);cases hy with
  |step h1 h2 h3 h4=>exact FO P c0 (ih _ h2 _ _ _ h3) h4
  |zg h1 h2=>have:=h1.2.2.2 w;dsimp only at this;rw[he] at this;cases this
  |aH h1 h2 h3 h4=>
   rcases h3 with h3|h3
   .dsimp only at h3;subst h3;have:=h2.2.2.2 w;rw[he] at this;cases this
   dsimp only at h3;subst h3;cases hr
 |@BN O g w ha _ ih=>
  have hp:Acc (Dn P c0) ⟨id,S,p,true,O,iB g #[nP c0 p zS] .send,w⟩:=by
   refine⟨_,fun y hy=>?_⟩;cases hy with
   |step h1 _ _ _=>cases h1
   |zg h1 _=>exact(sj P (c':=0) (v':=p) h1).elim
   |@aH _ _ g0 h1 h2 h3 h4=>
    rcases h3 with h3|h3
    .dsimp only at h3;rw[<-h3] at h2;exact(sj P (c':=0) (v':=p) h2).elim
    dsimp only at h3
    have e:g=g0:=by
     have e1:g.frame=g0.frame:=by have:=congrArg Goroutine.frame h3;exact this
     have e2:g.callers=g0.callers:=by have:=congrArg Goroutine.callers h3;exact this
     have e3:=ha.1;have e4:=h2.1;have e5:=ha.2.1;have e6:=h2.2.1;have e7:=ha.2.2.1;have e8:=h2.2.2.1;cases g;cases g0;simp_all
    subst e;exact FO P c0 ih h4
  refine⟨_,fun y hy=>?_⟩;cases hy with
  |step h1 h2 h3 h4=>dsimp only at h3;rw[ha.2.2.2] at h3;cases h3
  |@zg _ _ c v h1 h2=>
   have e:=h1.2.2.2 w;dsimp only at e;rw[ha.2.2.2 w] at e;injection e with e1 e2
   have e3:nP c0 p zS=nP c v zS:=by injection e2 with e2;injection e2
   rw[<-e3] at h2;exact FO P c0 hp h2
  |aH h1 h2 h3 h4=>
   rcases h3 with h3|h3
   .dsimp only at h3;subst h3;exact FO P c0 ih h4
   dsimp only at h3;subst h3;cases ha.1
 |@BM O g w n ha hq=>
  have hp:Acc (Dn P c0) ⟨id,S,p,false,O,iB g #[nP c1 (.bool true) zS] .send,w⟩:=by
   refine⟨_,fun y hy=>?_⟩;cases hy with
   |step h1 _ _ _=>cases h1
   |zg h1 _=>exact(sj P (c':=0) (v':=p) h1).elim
   |aH h1 _ _ _=>cases h1
  refine⟨_,fun y hy=>?_⟩;cases hy with
  |step h1 h2 h3 h4=>dsimp only at h3;rw[ha.2.2.2] at h3;cases h3
  |@zg _ _ c v h1 h2=>
   have e:=h1.2.2.2 w;dsimp only at e;rw[ha.2.2.2 w] at e;injection e with e1 e2
   have e3:nP c1 (.bool true) zS=nP c v zS:=by injection e2 with e2;injection e2
   rw[<-e3] at h2;exact FO P c0 hp h2
  |aH h1 _ _ _=>cases h1
end
end Go.Lag
