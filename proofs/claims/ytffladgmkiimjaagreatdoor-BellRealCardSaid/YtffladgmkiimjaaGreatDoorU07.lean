/- TWO RUNS OF ONE PROGRAM TEXT WHOSE NEW BLOCKS LIE AT OTHER PLACES: the .. -/
import Derived.Test.YtffladgmkiimjaaGreatDoorU06
import Derived.Conc.CrowdSel
set_option linter.all false
set_option maxHeartbeats 0
set_option maxRecDepth 1000000
open Array renaming mem_append -> H6,getElem?_setIfInBounds_ne -> aG,getElem?_eq_getElem -> aQ,getD_eq_getD_getElem? -> a_,getElem?_eq_some_iff -> ah,replicate -> bF,getElem?_setIfInBounds -> bK,getElem?_setIfInBounds_self_of_lt -> bn,empty_append -> fD,mem_of_getElem? -> fq,all_eq_true' -> kn,getElem?_push -> lM,mapM_eq_mapM_toList -> pH,getElem?_modify -> pX,toList_map -> wQ
open Bool renaming and_eq_true -> aJ,false_eq_true -> bG
open Go renaming choose -> AV,TypeId -> a7,Goroutine -> aH,Program -> aN,Value -> aj,World -> ak,undef -> aw,Operand -> bI,execOp -> bY,Frame -> b_,Addr -> cX,Question -> dQ,FuncId -> d_,runtimePanic -> eJ,stepG -> fE,Event -> gO,Sem -> iT,zeroValue -> je,underlying -> ji,CallKind -> kh,typeInfo -> ly,unwind -> mg,CommCase -> nj,Item -> pW,unsupported -> rD,doReturn -> uL,MapEntry -> uM,behindNumber -> vC,partners -> xM
open Go.Builtin renaming min_ -> Ci,max_ -> Cj,lenOf -> DL,firstCells -> eM,zeroCells -> f_,append_ -> kE,mayShare -> ql
open Go.Conc renaming served -> fF,getElem?_append_cases -> iB,parked -> iI,solo_eq_crowd -> nP,scase -> nT
open Go.Frame renaming enter -> eG
open Go.GStep renaming after -> Ce
open Go.Instr renaming mapUpdate -> A3,findKey -> DK,indexAt -> fp,findAsking -> jC,loadAt -> nV,checkKey -> nW,index -> ni
open Go.MemOp renaming ofEvents -> iJ
open Go.Mode renaming plain -> mS
open Go.Op renaming equalIn -> uf
open Go.Sem renaming runT_bind' -> Hx,runT -> dK
open Go.World renaming setCell -> kz
open Go.stepG renaming exec -> cF,apply -> eC,oper -> fB
open List renaming getElem_mem -> bQ,length_pos_iff -> cN,mem_cons -> cj,all_cons -> dX,mem_toArray -> fe,not_mem_nil -> gX,cons_append -> gY
open Nat renaming le_trans -> aF,le_refl -> aO,add_sub_cancel_left -> tk
open Option renaming map_some -> dM,map_eq_some_iff -> eP,bind_some -> gW
open Option.some renaming injEq -> ia
open Pure renaming pure -> eZ
open Std.Legacy.Range renaming forIn_eq_forIn_range' -> rF
namespace Go.Lag
open Go.Conc
abbrev Rn:=Nat->Option Nat
def Rn.le(U U':Rn):Prop:=∀b c,U b=some c->U' b=some c
def Rn.le_refl(U:Rn):Rn.le U U:=fun _ _ h=>h
def Rn.le_trans{U U' U'':Rn}(h:Rn.le U U')(h':Rn.le U' U''):Rn.le U U'':=fun b c e=>h' b c (h b c e)
structure AR(U:Rn)(a a':cX):Prop where
 block:U a.block=some a'.block
 off:a'.off=a.off
 spot:a'.spot=a.spot
def AR.mono{U U':Rn}{a a':cX}(h:AR U a a')(hl:Rn.le U U'):AR U' a a':=⟨hl _ _ h.block,h.off,h.spot⟩
def AR.add{U:Rn}{a a':cX}(h:AR U a a')(n:Nat):AR U (a.add n) (a'.add n):=by
 unfold Addr.add;split
 .exact h
 exact⟨h.block,by simp[h.off],rfl⟩
def AR.at{U:Rn}{a a':cX}(h:AR U a a')(off:Nat):AR U { a with off } { a' with off }:=⟨h.block,rfl,h.spot⟩
inductive VR(F:Nat->Bool)(U:Rn):aj->aj->Prop
 |bool (b:Bool):VR F U (.bool b) (.bool b)
 |int (k:IntKind) (n:Int):VR F U (.int k n) (.int k n)
 |string (s:ByteArray):VR F U (.string s) (.string s)
 |Dl:VR F U (.pointer none) (.pointer none)
 |ptr {a a':cX}:AR U a a'->VR F U (.pointer (some a)) (.pointer (some a'))
 |EU (l c:Nat):VR F U (.slice none l c) (.slice none l c)
 |slice {a a':cX} (l c:Nat):AR U a a'->VR F U (.slice (some a) l c) (.slice (some a') l c)
 |X9:VR F U (.map none) (.map none)
 |map {r r':Nat}:U r=some r'->VR F U (.map (some r)) (.map (some r'))
 |chan (r:Option Nat):VR F U (.chan r) (.chan r)
 |func {f:d_} {fs fs' cs cs':Array aj}:F f=true->fs.size=fs'.size->(∀(i:Nat) (x y:aj),fs[i]?=some x->fs'[i]?=some y->VR F U x y)->
   cs.size=cs'.size->(∀(i:Nat) (x y:aj),cs[i]?=some x->cs'[i]?=some y->VR F U x y)->VR F U (.func (.func f) fs cs) (.func (.func f) fs' cs')
 |X_:VR F U .nilFunc .nilFunc
 |agg {cs cs':Array aj}:cs.size=cs'.size->(∀(i:Nat) (x y:aj),cs[i]?=some x->cs'[i]?=some y->VR F U x y)->VR F U (.agg cs) (.agg cs')
 |tuple {cs cs':Array aj}:cs.size=cs'.size->(∀(i:Nat) (x y:aj),cs[i]?=some x->cs'[i]?=some y->VR F U x y)->VR F U (.tuple cs) (.tuple cs')
structure iZ(F:Nat->Bool)(U:Rn)(cs cs':Array aj):Prop where
 size:cs.size=cs'.size
 at_:∀(i:Nat) (x y:aj),cs[i]?=some x->cs'[i]?=some y->VR F U x y
section
variable{F:Nat->Bool}{U U':Rn}
theorem VR.mono{v v':aj}(h:VR F U v v')(hl:Rn.le U U'):VR F U' v v':=by
 induction h with
 |bool b=>exact .bool b
 |int k n=>exact .int k n
 |string s=>exact .string s
 |Dl=>exact .Dl
 |ptr h=>exact .ptr (h.mono hl)
 |EU l c=>exact .EU l c
 |slice l c h=>exact .slice l c (h.mono hl)
 |X9=>exact .X9
 |map h=>exact .map (hl _ _ h)
 |chan r=>exact .chan r
 |func hf h1 h2 h3 h4 ZC ih2=>exact .func hf h1 ZC h3 ih2
 |X_=>exact .X_
 |agg h1 h2 ih=>exact .agg h1 ih
 |tuple h1 h2 ih=>exact .tuple h1 ih
theorem iZ.mono{cs cs':Array aj}(h:iZ F U cs cs')(hl:Rn.le U U'):iZ F U' cs cs':=⟨h.size,fun i x y h1 h2=>(h.at_ i x y h1 h2).mono hl⟩
theorem iZ.agg{cs cs':Array aj}(h:iZ F U cs cs'):VR F U (.agg cs) (.agg cs'):=.agg h.size h.at_
theorem iZ.tuple{cs cs':Array aj}(h:iZ F U cs cs'):VR F U (.tuple cs) (.tuple cs'):=.tuple h.size h.at_
theorem iZ.get{cs cs':Array aj}(h:iZ F U cs cs'){i:Nat}{x:aj}(hx:cs[i]?=some x):∃y,cs'[i]?=some y/\VR F U x y:=by
 have hi:i<cs.size:=(ah.1 hx).1;have hi':i<cs'.size:=h.size▸hi;exact⟨cs'[i],aQ hi',h.at_ i x _ hx (aQ hi')⟩
theorem iZ.none{cs cs':Array aj}(h:iZ F U cs cs'){i:Nat}(hx:cs[i]?=none):cs'[i]?=none:=by
 rw[Array.getElem?_eq_none_iff] at hx ⊢;rw[<-h.size];exact hx
theorem iZ.nil:iZ F U #[] #[]:=⟨rfl,fun i x y h=>by simp at h⟩
theorem iZ.append{a a' b b':Array aj}(h:iZ F U a a')(h':iZ F U b b'):iZ F U (a++b) (a'++b'):=by
 refine⟨by simp[h.size,h'.size],fun i x y h1 h2=>?_⟩;rw[Array.getElem?_append] at h1 h2;rw[<-h.size] at h2;split at h1
 .rename_i hi;simp only[hi,if_true] at h2;exact h.at_ _ _ _ h1 h2
 rename_i hi;simp only[hi,if_false] at h2;exact h'.at_ _ _ _ h1 h2
theorem iZ.push{a a':Array aj}{v v':aj}(h:iZ F U a a')(h':VR F U v v'):iZ F U (a.push v) (a'.push v'):=by
 refine⟨by simp[h.size],fun i x y h1 h2=>?_⟩;rw[lM] at h1 h2;rw[<-h.size] at h2;split at h1
 .rename_i hi;simp only[hi,if_true] at h2;cases h1;cases h2;exact h'
 rename_i hi;simp only[hi,if_false] at h2;exact h.at_ _ _ _ h1 h2
theorem iZ.one{v v':aj}(h:VR F U v v'):iZ F U #[v] #[v']:=iZ.nil.push h
theorem iZ.extract{a a':Array aj}(h:iZ F U a a')(i j:Nat):iZ F U (a.extract i j) (a'.extract i j):=by
 refine⟨by simp[h.size],fun k x y h1 h2=>?_⟩;rw[Array.getElem?_extract] at h1 h2;rw[<-h.size] at h2;split at h1
 .rename_i hi;simp only[hi,if_true] at h2;exact h.at_ _ _ _ h1 h2
 cases h1
theorem iZ.set{a a':Array aj}{v v':aj}(h:iZ F U a a')(h':VR F U v v')(i:Nat):iZ F U (a.setIfInBounds i v) (a'.setIfInBounds i v'):=by
 refine⟨by simp[h.size],fun k x y h1 h2=>?_⟩;rw[bK] at h1 h2;split at h1
 .rename_i hi;simp only[hi,if_true] at h2;split at h1
  .rename_i hl;rw[if_pos (by rw[<-h.size];omega)] at h2;cases h1;cases h2;exact h'
  cases h1
 rename_i hi;simp only[hi,if_false] at h2;exact h.at_ _ _ _ h1 h2
theorem iZ.replicate{v v':aj}(h:VR F U v v')(n:Nat):iZ F U (bF n v) (bF n v'):=by
 refine⟨sN,fun k x y h1 h2=>?_⟩;rw[Array.getElem?_replicate] at h1 h2
 by_cases hi:k<n
 .rw[if_pos hi] at h1 h2;cases h1;cases h2;exact h
 rw[if_neg hi] at h1;cases h1
theorem iZ.getD{a a':Array aj}{v v':aj}(h:iZ F U a a')(h':VR F U v v')(i:Nat):VR F U (a.getD i v) (a'.getD i v'):=by
 rw[a_,a_];cases hx:a[i]? with
 |none=>rw[h.none hx];exact h'
 |some x=>
  obtain⟨y,hy,hv⟩:=h.get hx;rw[hy];exact hv
theorem iZ.map{α:Type}{l:Array α}{f g:α->aj}(h:∀x∈l,VR F U (f x) (g x)):iZ F U (l.map f) (l.map g):=by
 refine⟨sN,fun k x y h1 h2=>?_⟩;simp only[Array.getElem?_map] at h1 h2;cases hk:l[k]? with
 |none=>rw[hk] at h1;cases h1
 |some z=>
  rw[hk] at h1 h2;cases h1;cases h2;exact h z (fq hk)
theorem uj:VR F U aw undef:=iZ.nil.tuple
theorem VR.cells{v v':aj}(h:VR F U v v'):iZ F U v.cells v'.cells:=by
 cases h with
 |agg h1 h2=>exact⟨h1,h2⟩
 |bool b=>exact .one (.bool b)
 |int k n=>exact .one (.int k n)
 |string s=>exact .one (.string s)
 |Dl=>exact .one .Dl
 |ptr h=>exact .one (.ptr h)
 |EU l c=>exact .one (.EU l c)
 |slice l c h=>exact .one (.slice l c h)
 |X9=>exact .one .X9
 |map h=>exact .one (.map h)
 |chan r=>exact .one (.chan r)
 |func hf h1 h2 h3 h4=>exact .one (.func hf h1 h2 h3 h4)
 |X_=>exact .one .X_
 |tuple h1 h2=>exact .one (.tuple h1 h2)
def Ag:aj->Bool
 |.bool _|.int ..|.string _|.pointer none|.slice none _ _|.map none|.chan _|.nilFunc=>true
 |_=>false
def Fz:aj->Bool
 |.agg cs=>cs.all Ag
 |.tuple cs=>cs.all Ag
 |v=>Ag v
theorem MN{v:aj}(h:Ag v=true):VR F U v v:=by
 unfold Ag at h;split at h
 all_goals first|cases h;done|constructor
theorem aag{cs:Array aj}(h:cs.all Ag=true):iZ F U cs cs:=⟨rfl,fun i x y h1 h2=>by
 rw[h1] at h2;cases h2
 exact MN (kn.1 h x (fq h1))⟩
theorem Af{v:aj}(h:Fz v=true):VR F U v v:=by
 unfold Fz at h;split at h
 .exact(aag h).agg
 .exact(aag h).tuple
 exact MN h
end
structure MER(F:Nat->Bool)(U:Rn)(x y:uM):Prop where
 key:VR F U x.key y.key
 val:VR F U x.val y.val
 born:x.born=y.born
inductive OR(F:Nat->Bool)(U:Rn):Obj->Obj->Prop
 |cells {cs cs':Array aj} {e:a7} {z z':Nat × Nat}:iZ F U cs cs'->(∀i,z'.1<=i->i<z'.2->z.1<=i/\i<z.2)->OR F U (.cells cs e z) (.cells cs' e z')
 |map {es es':Array uM} {k:Nat}:es.size=es'.size->(∀(i:Nat) (x y:uM),es[i]?=some x->es'[i]?=some y->MER F U x y)->OR F U (.map es k) (.map es' k)
 |number {a a':cX} (l:Bool):AR U a a'->OR F U (.number a l) (.number a' l)
def OR.JL{F:Nat->Bool}{U:Rn}{o o':Obj}(h:OR F U o o'):o.isChan=false:=by cases h<;>rfl
def OR.mono{F:Nat->Bool}{U U':Rn}{o o':Obj}(h:OR F U o o')(hl:Rn.le U U'):OR F U' o o':=by
 cases h with
 |cells h1 h2=>exact .cells (h1.mono hl) h2
 |map h1 h2=>exact .map h1 fun i x y a b=>⟨(h2 i x y a b).key.mono hl,(h2 i x y a b).val.mono hl,(h2 i x y a b).born⟩
 |number l h=>exact .number l (h.mono hl)
structure WR(F:Nat->Bool)(G:Nat)(B:Nat->Prop)(U:Rn)(lw w:ak):Prop where
 inj:∀a b c,U a=some c->U b=some c->a=b
 low:∀b c,U b=some c->G<=b/\G<=c
 base:∀b,B b->b<lw.heap.size
 at_:∀b c,U b=some c->∃o o',lw.heap[b]?=some o/\w.heap[c]?=some o'/\OR F U o o'/\(B b->∃cs e n,o=.cells cs e (0,n)/\cs.size<=n)
 JL:∀(b:Nat) (o:Obj),lw.heap[b]?=some o->o.isChan=false
def Gl:Halt->Prop
 |.panic _|.stuck _=>True
 |.unsupported (.initOrder _)=>False
 |.unsupported _=>True
 |_=>False
section
variable{F:Nat->Bool}{G:Nat}{B:Nat->Prop}{U:Rn}{lw w:ak}
theorem WR.cell(h:WR F G B U lw w){a a':cX}(ha:AR U a a'){v:aj}(hv:lw.cell? a=some v):∃v',w.cell? a'=some v'/\VR F U v v':=by
 obtain⟨o,o',h1,h2,h3,_⟩:=h.at_ _ _ ha.block;unfold World.cell? at hv ⊢;rw[h1] at hv;rw[h2];cases h3 with
 |map _ _=>cases hv
 |number _ _=>cases hv
 |cells hc hz=>
  simp only at hv ⊢;rw[ha.spot,ha.off];split at hv
  .cases hv
  rename_i hs;rw[if_neg hs];exact hc.get hv
theorem WR.noCell(h:WR F G B U lw w){P:aN}{a a':cX}(ha:AR U a a')(hv:lw.cell? a=none){b:Bool}:∃e,lw.farLoad P a b=.error e/\Gl e:=by
 obtain⟨o,o',h1,h2,h3,_⟩:=h.at_ _ _ ha.block;unfold World.farLoad World.noCell;rw[h1];cases h3 with
 |map _ _=>exact⟨_,rfl,trivial⟩
 |number _ _=>exact⟨_,rfl,trivial⟩
 |cells hc hz=>exact⟨_,rfl,trivial⟩
theorem WR.X8(h:WR F G B U lw w){P:aN}{a a':cX}(ha:AR U a a')(hv:lw.cell? a=none){b:Bool}{v:aj}:∃e,lw.farStore P a v b=.error e/\Gl e:=by
 obtain⟨o,o',h1,h2,h3,_⟩:=h.at_ _ _ ha.block;unfold World.farStore World.noCell;rw[h1];cases h3 with
 |map _ _=>exact⟨_,rfl,trivial⟩
 |number _ _=>exact⟨_,rfl,trivial⟩
 |cells hc hz=>exact⟨_,rfl,trivial⟩
theorem WR.shape(h:WR F G B U lw w){r r':Nat}(hr:U r=some r'):w.shape? r'=lw.shape? r:=by
 obtain⟨o,o',h1,h2,h3,_⟩:=h.at_ _ _ hr;unfold World.shape?;rw[h1,h2];cases h3 with
 |map _ _=>rfl
 |number _ _=>rfl
 |cells hc hz=>simp[hc.size]
theorem WR.tape(h:WR F G B U lw w)(I I':Nat->dQ->Nat)(d d':Nat):WR F G B U (dH lw I d) (dH w I' d'):=⟨h.inj,h.low,h.base,h.at_,h.JL⟩
theorem WR.turn(h:WR F G B U lw w){b c:Nat}(hb:U b=some c)(hB:¬B b){o o':Obj}(ho:OR F U o o'){eL w':ak}(h1:eL.heap=lw.heap.setIfInBounds b o)(h2:w'.heap=w.heap.setIfInBounds c o'):WR F G B U eL w':=by
 refine⟨h.inj,h.low,fun x hx=>by rw[h1];simpa using h.base x hx,fun x y hx=>?_,fun x y hx=>?_⟩
 rotate_left
 .rw[h1] at hx
  by_cases hxb:b=x
  .subst hxb;rcases Nat.lt_or_ge b lw.heap.size with hl|hl
   .rw[bn hl] at hx;cases hx;exact ho.JL
   rw[Array.getElem?_eq_none (by simpa using hl)] at hx;cases hx
  rw[aG hxb] at hx;exact h.JL _ _ hx
 rw[h1,h2];obtain⟨p,p',e1,e2,e3,e4⟩:=h.at_ x y hx
 by_cases hxb:b=x
 .subst hxb;have:c=y:=by rw[hb] at hx;exact Option.some.inj hx
  subst this;refine⟨o,o',?_,?_,ho,fun hlt=>absurd hlt hB⟩
  .rw[bn (eR e1)]
  rw[bn (eR e2)]
 have hyc:c≠y:=fun hc=>hxb (h.inj b x c hb (hc▸hx));rw[aG hxb,aG hyc];exact⟨p,p',e1,e2,e3,e4⟩
theorem zx{w:ak}{a:cX}{v:aj}{cs:Array aj}{e:a7}{z:Nat × Nat}(h:w.heap[a.block]?=some (.cells cs e z)) :
  (w.setCell a v).heap=w.heap.setIfInBounds a.block (.cells (if a.spot.isSome then cs else cs.setIfInBounds a.off v) e z):=by
 apply Array.ext_getElem?;intro j;simp only[kz];rw[pX,bK];split
 .rename_i Vd;subst Vd;rw[h,if_pos (eR h)];rfl
 rfl
theorem WR.setCell(h:WR F G B U lw w){a a':cX}(ha:AR U a a'){v v' x:aj}(hv:VR F U v v')(hc:lw.cell? a=some x)(hz:lw.frozen? a=false) :
  ¬B a.block/\w.frozen? a'=false/\WR F G B U (lw.setCell a v) (w.setCell a' v'):=by
 obtain⟨o,o',h1,h2,h3,h4⟩:=h.at_ _ _ ha.block;unfold World.cell? at hc;unfold World.frozen? at hz ⊢;rw[h1] at hc hz;rw[h2];cases h3 with
 |map _ _=>cases hc
 |number _ _=>cases hc
 |@cells cs cs' e z z' hcs hfz=>
  simp only at hc hz ⊢
  have aiE:cs[a.off]?=some x:=by
   split at hc
   .cases hc
   exact hc
  have hB:¬B a.block:=by
   intro hlt;obtain⟨cs1,e1,n,he,hn⟩:=h4 hlt;injection he with he1 he2 he3
   subst he1;subst he3;have:=(ah.1 aiE).1;have h5:a.off<n:=oN;simp[h5] at hz
  refine⟨hB,?_,?_⟩
  .rw[ha.off];cases hcc:(decide (z'.1<=a.off)&&decide (a.off<z'.2)) with
   |false=>rfl
   |true=>
    simp only[aJ,decide_eq_true_eq] at hcc;have:=hfz _ hcc.1 hcc.2;simp[this] at hz
  refine h.turn ha.block hB (o:=.cells (if a.spot.isSome then cs else cs.setIfInBounds a.off v) e z) (o':=.cells (if a'.spot.isSome then cs' else cs'.setIfInBounds a'.off v') e z') ?_ (zx h1) (zx h2);rw[ha.spot,ha.off];split
  .exact .cells hcs hfz
  exact .cells (hcs.set hv _) hfz
def Rn.with(U:Rn)(b c:Nat):Rn:=fun x=>if x=b then some c else U x
theorem Rn.Qm{U:Rn}{b c:Nat}(h:U b=none):Rn.le U (U.with b c):=fun x y hx=>by
 unfold Rn.with
 split
 .rename_i he;subst he;rw[h] at hx;cases hx
 exact hx
theorem Rn.A5{U:Rn}{b c:Nat}:U.with b c b=some c:=by simp[Rn.with]
theorem WR.fresh(h:WR F G B U lw w):U lw.heap.size=none:=by
 cases e:U lw.heap.size with
 |none=>rfl
 |some c=>
  obtain⟨o,_,h1,_⟩:=h.at_ _ _ e;have:=eR h1;omega
theorem WR.new(h:WR F G B U lw w)(hG:G<=lw.heap.size)(D5:G<=w.heap.size){o o':Obj}(ho:OR F U o o') :
  WR F G B (U.with lw.heap.size w.heap.size) { lw with heap:=lw.heap.push o } { w with heap:=w.heap.push o' }:=by
 have hle:=Rn.Qm (c:=w.heap.size) h.fresh;refine⟨fun a b c ha hb=>?_,fun b c hb=>?_,fun b hb=>by have:=h.base b hb;simp;omega,fun b c hb=>?_,fun b x hx=>?_⟩
 .unfold Rn.with at ha hb
  have lt:∀x,U x=some w.heap.size->False:=fun x hx=>by
   obtain⟨_,_,_,h2,_⟩:=h.at_ _ _ hx;have:=eR h2;omega
  split at ha
  .split at hb
   .rename_i h1 h2;rw[h1,h2]
   cases ha;exact(lt _ hb).elim
  split at hb
  .cases hb;exact(lt _ ha).elim
  exact h.inj _ _ _ ha hb
 .unfold Rn.with at hb
  split at hb
  .rename_i he;cases hb;rw[he];exact⟨hG,D5⟩
  exact h.low _ _ hb
 .by_cases he:b=lw.heap.size
  .subst he;rw[Rn.A5] at hb;cases hb;refine⟨o,o',sN,sN,ho.mono hle,fun hlt=>absurd (h.base _ hlt) oN⟩
  unfold Rn.with at hb
  simp only[he,if_false] at hb;obtain⟨p,p',e1,e2,e3,e4⟩:=h.at_ _ _ hb;refine⟨p,p',?_,?_,e3.mono hle,e4⟩
  .simp only;rw[Array.getElem?_push_lt (eR e1)];rw[<-e1];exact(aQ (eR e1)).symm
  simp only;rw[Array.getElem?_push_lt (eR e2)];rw[<-e2];exact(aQ (eR e2)).symm
 simp only at hx;rw[lM] at hx;split at hx
 .cases hx;exact ho.JL
 exact h.JL _ _ hx
end
def rr(P:aN){α:Type}(s:iT α):Prop:=∀w es,∃h w' es',s.runT P w es=(.halt h w',es')/\Gl h
inductive cu(P:aN)(F:Nat->Bool){α β:Type}(A:Rn->α->β->Prop):Rn->iT α->iT β->Prop
 |pure {U:Rn} {a:α} {b:β}:A U a b->cu P F A U (.pure a) (.pure b)
 |dead {U:Rn} {s:iT α} {s':iT β}:rr P s->cu P F A U s s'
 |load {U:Rn} {a a':cX} {k:aj->iT α} {k':aj->iT β}:AR U a a'->(∀v v',VR F U v v'->cu P F A U (k v) (k' v'))->cu P F A U (.load .plain a k) (.load .plain a' k')
 |store {U:Rn} {a a':cX} {v v':aj} {k:iT α} {k':iT β}:AR U a a'->VR F U v v'->cu P F A U k k'->cu P F A U (.store .plain a v k) (.store .plain a' v' k')
 |new {U:Rn} {o o':Obj} {k:Nat->iT α} {k':Nat->iT β}:OR F U o o'->(∀U' r r',Rn.le U U'->U' r=some r'->cu P F A U' (k r) (k' r'))->cu P F A U (.new o k) (.new o' k')
 |shape {U:Rn} {r r':Nat} {k:Option (a7 × Nat)->iT α} {k':Option (a7 × Nat)->iT β}:U r=some r'->(∀s,cu P F A U (k s) (k' s))->cu P F A U (.shape r k) (.shape r' k')
 |getObj {U:Rn} {r r':Nat} {k:Obj->iT α} {k':Obj->iT β}:U r=some r'->(∀o o',OR F U o o'->cu P F A U (k o) (k' o'))->cu P F A U (.getObj r k) (.getObj r' k')
 |setObj {U:Rn} {r r':Nat} {o o':Obj} {k:iT α} {k':iT β}:U r=some r'->OR F U o o'->cu P F A U k k'->cu P F A U (.setObj r o k) (.setObj r' o' k')
 |choose {U:Rn} {q:dQ} {k:Nat->iT α} {k':Nat->iT β}:(∀n,cu P F A U (k n) (k' n))->cu P F A U (.choose q k) (.choose q k')
 |program {U:Rn} {k:aN->iT α} {k':aN->iT β}:cu P F A U (k P) (k' P)->cu P F A U (.program k) (.program k')
 |noRoom {U:Rn} {k:iT α} {k':iT β}:cu P F A U k k'->cu P F A U (.mark .noRoom k) (.mark .noRoom k')
section
variable{P:aN}{F:Nat->Bool}{α β γ Z:Type}{A:Rn->α->β->Prop}{A':Rn->γ->Z->Prop}{U:Rn}
theorem rU{h:Halt}(hh:Gl h):rr P (.halt h:iT α):=fun w es=>⟨h,w,es,rfl,hh⟩
theorem rr.bind{s:iT α}(h:rr P s)(f:α->iT γ):rr P (s >>= f):=fun w es=>by
 obtain⟨e,w',es',h1,h2⟩:=h w es;refine⟨e,w',es',?_,h2⟩;show(s.bind f).runT P w es=_;rw[Hx,h1]
theorem cu.bind{s:iT α}{s':iT β}{f:α->iT γ}{f':β->iT Z}(h:cu P F A U s s')(hf:∀U' a b,Rn.le U U'->A U' a b->cu P F A' U' (f a) (f' b)) :
  cu P F A' U (s >>= f) (s' >>= f'):=by
 show cu P F A' U (s.bind f) (s'.bind f')
 induction h with
 |pure ha=>exact hf _ _ _ (Rn.le_refl _) ha
 |dead hd=>exact .dead (hd.bind f)
 |load ha _ ih=>exact .load ha fun v v' hv=>ih v v' hv hf
 |store ha hv _ ih=>exact .store ha hv (ih hf)
 |new ho _ ih=>exact .new ho fun U' r r' hl hr=>ih U' r r' hl hr fun U'' a b hl'=>hf U'' a b (Rn.le_trans hl hl')
 |shape hr _ ih=>exact .shape hr fun s=>ih s hf
 |getObj hr _ ih=>exact .getObj hr fun o o' ho=>ih o o' ho hf
 |setObj hr ho _ ih=>exact .setObj hr ho (ih hf)
 |choose _ ih=>exact .choose fun n=>ih n hf
 |program _ ih=>exact .program (ih hf)
 |noRoom _ ih=>exact .noRoom (ih hf)
theorem cu.imp{A':Rn->α->β->Prop}{s:iT α}{s':iT β}(h:cu P F A U s s')(hf:∀U' a b,Rn.le U U'->A U' a b->A' U' a b):cu P F A' U s s':=by
 induction h with
 |pure ha=>exact .pure (hf _ _ _ (Rn.le_refl _) ha)
 |dead hd=>exact .dead hd
 |load ha _ ih=>exact .load ha fun v v' hv=>ih v v' hv hf
 |store ha hv _ ih=>exact .store ha hv (ih hf)
 |new ho _ ih=>exact .new ho fun U' r r' hl hr=>ih U' r r' hl hr fun U'' a b hl'=>hf U'' a b (Rn.le_trans hl hl')
 |shape hr _ ih=>exact .shape hr fun s=>ih s hf
 |getObj hr _ ih=>exact .getObj hr fun o o' ho=>ih o o' ho hf
 |setObj hr ho _ ih=>exact .setObj hr ho (ih hf)
 |choose _ ih=>exact .choose fun n=>ih n hf
 |program _ ih=>exact .program (ih hf)
 |noRoom _ ih=>exact .noRoom (ih hf)
abbrev At(U:Rn)(Q:α->β->Prop):Rn->α->β->Prop:=fun U' a b=>U'=U/\Q a b
theorem cu.dO{Q:α->β->Prop}{s:iT α}{s':iT β}{f:α->iT γ}{f':β->iT Z}(h:cu P F (At U Q) U s s')(hf:∀a b,Q a b->cu P F A' U (f a) (f' b)) :
  cu P F A' U (s >>= f) (s' >>= f'):=h.bind fun U' a b _ ⟨e,hq⟩=>by subst e;exact hf a b hq
theorem cu.dB{Q:α->β->Prop}{a:α}{b:β}(h:Q a b):cu P F (At U Q) U (eZ a) (eZ b):=.pure ⟨rfl,h⟩
theorem bt{s:String}{s':iT β}:cu P F A U (stuck s) s':=.dead (rU trivial)
theorem cI{u:Unsupported}{s':iT β}(h:∀g,u≠.initOrder g):cu P F A U (rD u) s':=.dead (rU (by cases u<;>first|trivial|exact absurd rfl (h _)))
end
def TI(R W:Nat->Prop)(e:gO):Prop:=
 (∃a:cX,e.loc=.cell a/\e.sync=false/\R a.block/\(e.write=true->W a.block))\/(∃r,e.loc=.obj r/\e.sync=false/\R r/\(e.write=true->W r))\/e.loc=.mark .noRoom
def TI.mono{R R' W W':Nat->Prop}{e:gO}(h:TI R W e)(hR:∀c,R c->R' c)(hW:∀c,W c->W' c):TI R' W' e:=by
 rcases h with⟨a,h1,h2,h3,h4⟩|⟨r,h1,h2,h3,h4⟩|h
 .exact .inl ⟨a,h1,h2,hR _ h3,fun e=>hW _ (h4 e)⟩
 .exact .inr (.inl ⟨r,h1,h2,hR _ h3,fun e=>hW _ (h4 e)⟩)
 exact .inr (.inr h)
def Rn.knows(U:Rn)(c:Nat):Prop:=∃b,U b=some c
def Rn.owns(U:Rn)(B:Nat->Prop)(c:Nat):Prop:=∃b,¬B b/\U b=some c
def wN(lw w:ak):Prop:=∀i,lw.tape (lw.drawn+i)=w.tape (w.drawn+i)
structure m8(F:Nat->Bool)(G:Nat)(B:Nat->Prop)(U:Rn)(lw w:ak)(U':Rn)(eL w':ak)(evs:Array gO):Prop where
 wr:WR F G B U' eL w'
 le:Rn.le U U'
 new:∀b c,U' b=some c->U b=some c\/(lw.heap.size<=b/\w.heap.size<=c)
 IE:lw.heap.size<=eL.heap.size
 grow:w.heap.size<=w'.heap.size
 keep:∀c,c<w.heap.size->¬U.owns B c->w'.heap[c]?=w.heap[c]?
 fresh:∀c,w.heap.size<=c->c<w'.heap.size->U'.knows c
 tape:w'.tape=w.tape
 Ql:eL.tape=lw.tape
 draw:∃k,eL.drawn=lw.drawn+k/\w'.drawn=w.drawn+k
 os:w'.os=w.os
 out:w'.output=w.output
 evs:∀e∈evs,TI U'.knows (U'.owns B) e
section
variable{P:aN}{F:Nat->Bool}{G:Nat}{B:Nat->Prop}{U U' U'':Rn}{lw w eL w' aen w'':ak}{es es':Array gO}
theorem m8.refl(h:WR F G B U lw w):m8 F G B U lw w U lw w #[]:=
 ⟨h,Rn.le_refl _,fun b c h=>.inl h,aO _,aO _,fun _ _ _=>rfl,fun c h1 h2=>absurd h1 oN,rfl,rfl,⟨0,rfl,rfl⟩,rfl,rfl,sN⟩
theorem m8.trans(h:m8 F G B U lw w U' eL w' es)(h':m8 F G B U' eL w' U'' aen w'' es')(hB:∀b,B b->b<lw.heap.size):m8 F G B U lw w U'' aen w'' (es++es'):=by
 refine⟨h'.wr,Rn.le_trans h.le h'.le,fun b c hb=>?_,aF h.IE h'.IE,aF h.grow h'.grow,fun c hc hn=>?_,fun c h1 h2=>?_,h'.tape.trans h.tape,h'.Ql.trans h.Ql,?_,h'.os.trans h.os,h'.out.trans h.out,fun e he=>?_⟩
 .rcases h'.new b c hb with h1|⟨h1,h2⟩
  .exact h.new b c h1
  exact .inr ⟨aF h.IE h1,aF h.grow h2⟩
 .rw[h'.keep c (Nat.lt_of_lt_of_le hc h.grow) ?_,h.keep c hc hn];rintro⟨b,hb,he⟩;rcases h.new b c he with h1|⟨_,h2⟩
  .exact hn ⟨b,hb,h1⟩
  omega
 .rcases Nat.lt_or_ge c w'.heap.size with hl|hg
  .obtain⟨b,hb⟩:=h.fresh c h1 hl;exact⟨b,h'.le _ _ hb⟩
  exact h'.fresh c hg h2
 .obtain⟨k,h1,h2⟩:=h.draw;obtain⟨k',h3,h4⟩:=h'.draw;exact⟨k+k',oN,oN⟩
 rcases H6.1 he with h1|h1
 .exact(h.evs e h1).mono (fun c ⟨b,hb⟩=>⟨b,h'.le _ _ hb⟩) (fun c ⟨b,h1,hb⟩=>⟨b,h1,h'.le _ _ hb⟩)
 exact h'.evs e h1
theorem m8.Zx(h:m8 F G B U lw w U' eL w' es)(ht:wN lw w):wN eL w':=fun i=>by
 obtain⟨k,h1,h2⟩:=h.draw;rw[h.Ql,h.tape,h1,h2,Nat.add_assoc,Nat.add_assoc];exact ht _
theorem m8.more(h:m8 F G B U lw w U' eL w' es)(h2:∀e∈es',TI U'.knows (U'.owns B) e):m8 F G B U lw w U' eL w' es':=
 ⟨h.wr,h.le,h.new,h.IE,h.grow,h.keep,h.fresh,h.tape,h.Ql,h.draw,h.os,h.out,h2⟩
theorem m8.push(h:m8 F G B U lw w U' eL w' es){e:gO}(he:TI U.knows (U.owns B) e):m8 F G B U lw w U' eL w' (#[e]++es):=
 h.more fun x hx=>by
  rcases H6.1 hx with h1|h1
  .simp only[fe,List.mem_singleton] at h1;subst h1;exact he.mono (fun c ⟨b,hb⟩=>⟨b,h.le _ _ hb⟩) (fun c ⟨b,h1,hb⟩=>⟨b,h1,h.le _ _ hb⟩)
  exact h.evs x h1
theorem H7(h:WR F G B U lw w)(h':WR F G B U eL w'){c:Nat}(hc:U.owns B c)(hl:eL.heap.size=lw.heap.size){o':Obj}(hh:w'.heap=w.heap.setIfInBounds c o')
  (h1:w'.tape=w.tape) (h2:eL.tape=lw.tape) (h3:eL.drawn=lw.drawn) (h4:w'.drawn=w.drawn) (h5:w'.os=w.os) (h6:w'.output=w.output):m8 F G B U lw w U eL w' #[]:=
 ⟨h',Rn.le_refl _,fun b c h=>.inl h,oN,by rw[hh];simp,fun x hx hn=>by
  rw[hh,aG (fun e=>hn (by rw[<-e];exact hc))],
  fun c h1 h2=>by rw[hh] at h2;simp at h2;omega,h1,h2,⟨0,by simp[h3],by simp[h4]⟩,h5,h6,sN⟩
theorem TL(h:WR F G B U lw w)(hG:G<=lw.heap.size)(D5:G<=w.heap.size){o o':Obj}(ho:OR F U o o') :
  m8 F G B U lw w (U.with lw.heap.size w.heap.size) { lw with heap:=lw.heap.push o } { w with heap:=w.heap.push o' } #[]:=by
 refine⟨h.new hG D5 ho,Rn.Qm h.fresh,fun b c hb=>?_,sN,sN,fun c hc _=>?_,fun c h1 h2=>?_,rfl,rfl,⟨0,rfl,rfl⟩,rfl,rfl,sN⟩
 .unfold Rn.with at hb
  split at hb
  .rename_i he;cases hb;exact .inr ⟨oN,aO _⟩
  exact .inl hb
 .simp only;rw[Array.getElem?_push_lt hc];exact(aQ hc).symm
 simp only[Array.size_push] at h2;have:c=w.heap.size:=oN;subst this;exact⟨lw.heap.size,Rn.A5⟩
theorem H9(h:WR F G B U lw w):m8 F G B U lw w U { lw with drawn:=lw.drawn+1 } { w with drawn:=w.drawn+1 } #[]:=
 ⟨h.tape _ _ _ _,Rn.le_refl _,fun b c h=>.inl h,aO _,aO _,fun _ _ _=>rfl,fun c h1 h2=>absurd h2 (by simp only;omega),rfl,rfl,⟨1,rfl,rfl⟩,rfl,rfl,sN⟩
theorem qK{α:Type}(es evs:Array α)(e:α):es.push e++evs=es++(#[e]++evs):=by
 rw[<-Array.append_assoc,Array.append_singleton]
theorem cu.runT{α β:Type}{A:Rn->α->β->Prop}{s:iT α}{s':iT β}(h:cu P F A U s s'):∀ {lw w:ak},WR F G B U lw w->wN lw w->G<=lw.heap.size->G<=w.heap.size->∀es es',
  (∃a eL l b w' evs U',s.runT P lw es=(.ok a eL,l)/\s'.runT P w es'=(.ok b w',es'++evs)/\A U' a b/\m8 F G B U lw w U' eL w' evs)\/
  (∃e eL l,s.runT P lw es=(.halt e eL,l)/\Gl e):=by
 induction h with
 |@pure U a b ha=>exact fun hw _ _ _ es es'=>.inl ⟨a,_,es,b,_,#[],U,rfl,by simp[dK],ha,.refl hw⟩
 |@dead U s s' hd=>
  intro lw w hw _ _ _ es es';obtain⟨e,w1,l,h1,h2⟩:=hd lw es;exact .inr ⟨e,w1,l,h1,h2⟩
 |@load U a a' k k' ha _ ih=>
  intro lw w hw ht hG D5 es es';simp only[dK];cases hc:lw.cell? a with
  |none=>
   obtain⟨e,h1,h2⟩:=hw.noCell (P:=P) ha hc (b:=(mS == .atomic));rw[h1];exact .inr ⟨e,lw,es,rfl,h2⟩
  |some v=>
   obtain⟨v',hc',hv⟩:=hw.cell ha hc;rw[hc'];rcases ih v v' hv hw ht hG D5 (es.push ⟨.cell a,false,mS == .atomic⟩) (es'.push ⟨.cell a',false,mS == .atomic⟩) with⟨x,kW,l,y,w1,evs,ρ1,h1,h2,h3,h4⟩|h
   .refine .inl ⟨x,kW,l,y,w1,_,ρ1,h1,?_,h3,h4.push (e:=⟨.cell a',false,mS == .atomic⟩) (.inl ⟨a',rfl,rfl,⟨_,ha.block⟩,sN⟩)⟩;exact h2.trans (by rw[qK])
   exact .inr h
 |@store U a a' v v' k k' ha hv _ ih=>
  intro lw w hw ht hG D5 es es'
  have main:(∃a1 eL l b w' evs U',(match lw.cell? a with
     |some _=>if lw.frozen? a then(.halt (.unsupported (.unsafePointer "a write to bytes that a string shares")) lw,es) else k.runT P (lw.setCell a v) (es.push ⟨.cell a,true,mS == .atomic⟩)
     |none=>match lw.farStore P a v (mS == .atomic) with
      |.ok (w,uk)=>k.runT P w (es++uk.toArray.map (⟨.cell ·,true,mS == .atomic⟩))
      |.error h=>(.halt h lw,es))=(.ok a1 eL,l)/\(match w.cell? a' with
     |some _=>if w.frozen? a' then(.halt (.unsupported (.unsafePointer "a write to bytes that a string shares")) w,es') else k'.runT P (w.setCell a' v') (es'.push ⟨.cell a',true,mS == .atomic⟩)
     |none=>match w.farStore P a' v' (mS == .atomic) with
      |.ok (w,uk)=>k'.runT P w (es'++uk.toArray.map (⟨.cell ·,true,mS == .atomic⟩))
      |.error h=>(.halt h w,es'))=(.ok b w',es'++evs)/\A U' a1 b/\m8 F G B U lw w U' eL w' evs)\/(∃e eL l,(match lw.cell? a with
     |some _=>if lw.frozen? a then(.halt (.unsupported (.unsafePointer "a write to bytes that a string shares")) lw,es) else k.runT P (lw.setCell a v) (es.push ⟨.cell a,true,mS == .atomic⟩)
     |none=>match lw.farStore P a v (mS == .atomic) with
      |.ok (w,uk)=>k.runT P w (es++uk.toArray.map (⟨.cell ·,true,mS == .atomic⟩))
      |.error h=>(.halt h lw,es))=(.halt e eL,l)/\Gl e):=by
   cases hc:lw.cell? a with
   |none=>
    obtain⟨e,h1,h2⟩:=hw.X8 (P:=P) ha hc (b:=(mS == .atomic)) (v:=v);simp only[h1];exact .inr ⟨e,lw,es,rfl,h2⟩
   |some x=>
    obtain⟨x',hc',_⟩:=hw.cell ha hc;simp only[hc'];cases hz:lw.frozen? a with
    |true=>exact .inr ⟨_,lw,es,rfl,trivial⟩
    |false=>
     obtain⟨hB,hz',hw'⟩:=hw.setCell ha hv hc hz;simp only[hz',bG,if_false];have hsz:(lw.setCell a v).heap.size=lw.heap.size:=by simp[kz]
     have hown:U.owns B a'.block:=⟨a.block,hB,ha.block⟩
     have hturn:m8 F G B U lw w U (lw.setCell a v) (w.setCell a' v') #[]:=by
      obtain⟨o,o',_,e2,_,_⟩:=hw.at_ _ _ ha.block;refine⟨hw',Rn.le_refl _,fun b c h=>.inl h,oN,by simp[kz],fun c hcl hn=>?_,fun c h1 h2=>by simp[kz] at h2;omega,rfl,rfl,⟨0,rfl,rfl⟩,rfl,rfl,sN⟩;simp only[kz,pX];rw[if_neg (fun e=>hn (by rw[<-e];exact hown))]
     rcases ih hw' (fun i=>ht i) oN (by simp[kz];exact D5) (es.push ⟨.cell a,true,mS == .atomic⟩) (es'.push ⟨.cell a',true,mS == .atomic⟩) with⟨x,kW,l,y,w1,evs,ρ1,h1,h2,h3,h4⟩|h
     .refine .inl ⟨x,kW,l,y,w1,#[⟨.cell a',true,mS == .atomic⟩]++(#[]++evs),ρ1,h1,?_,h3,(hturn.trans h4 hw.base).push (.inl ⟨a',rfl,rfl,⟨_,ha.block⟩,fun _=>hown⟩)⟩;exact h2.trans (by simp only[qK,fD])
     exact .inr h
  cases hv with
  |agg _ _=>exact .inr ⟨_,lw,es,rfl,trivial⟩
  |tuple _ _=>exact .inr ⟨_,lw,es,rfl,trivial⟩
  |_=>simp only[dK];exact main
 |@new U o o' k k' ho _ ih=>
  intro lw w hw ht hG D5 es es';simp only[dK];have h0:=TL hw hG D5 ho;rcases ih _ lw.heap.size w.heap.size h0.le Rn.A5 h0.wr (h0.Zx ht) sP sP es es' with⟨x,kW,l,y,w1,evs,ρ1,h1,h2,h3,h4⟩|h
  .exact .inl ⟨x,kW,l,y,w1,_,ρ1,h1,by rw[h2];simp,h3,h0.trans h4 hw.base⟩
  exact .inr h
 |@shape U r r' k k' hr _ ih=>
  intro lw w hw ht hG D5 es es';simp only[dK];rw[hw.shape hr];exact ih _ hw ht hG D5 es es'
 |@getObj U r r' k k' hr _ ih=>
  intro lw w hw ht hG D5 es es';obtain⟨o,o',e1,e2,ho,_⟩:=hw.at_ _ _ hr;simp only[dK,e1,e2];cases ho with
  |cells _ _=>exact .inr ⟨_,lw,es,rfl,trivial⟩
  |@map es1 es2 k1 hs hm=>
   simp only;rcases ih _ _ (.map hs hm) hw ht hG D5 (es.push ⟨.obj r,false,(Obj.map es1 k1).isChan⟩) (es'.push ⟨.obj r',false,(Obj.map es2 k1).isChan⟩) with⟨x,kW,l,y,w1,evs,ρ1,h1,h2,h3,h4⟩|h
   .refine .inl ⟨x,kW,l,y,w1,_,ρ1,h1,?_,h3,h4.push (e:=⟨.obj r',false,(Obj.map es2 k1).isChan⟩) (.inr (.inl ⟨r',rfl,rfl,⟨_,hr⟩,sN⟩))⟩;exact h2.trans (by simp only[qK,fD])
   exact .inr h
  |@number a1 a2 k1 hs=>
   simp only;rcases ih _ _ (.number k1 hs) hw ht hG D5 (es.push ⟨.obj r,false,(Obj.number a1 k1).isChan⟩) (es'.push ⟨.obj r',false,(Obj.number a2 k1).isChan⟩) with⟨x,kW,l,y,w1,evs,ρ1,h1,h2,h3,h4⟩|h
   .refine .inl ⟨x,kW,l,y,w1,_,ρ1,h1,?_,h3,h4.push (e:=⟨.obj r',false,(Obj.number a2 k1).isChan⟩) (.inr (.inl ⟨r',rfl,rfl,⟨_,hr⟩,sN⟩))⟩;exact h2.trans (by simp only[qK,fD])
   exact .inr h
 |@setObj U r r' o o' k k' hr ho _ ih=>
  intro lw w hw ht hG D5 es es';obtain⟨p,p',e1,e2,hp,hfz⟩:=hw.at_ _ _ hr;simp only[dK,e1,e2];cases hp with
  |cells _ _=>exact .inr ⟨_,lw,es,rfl,trivial⟩
  |@map es1 es2 k1 hs hm=>
   simp only
   have hB:¬B r:=fun hl=>by
    obtain⟨_,_,_,h,_⟩:=hfz hl;cases h
   have hown:U.owns B r':=⟨r,hB,hr⟩
   have hw':WR F G B U { lw with heap:=lw.heap.setIfInBounds r o } { w with heap:=w.heap.setIfInBounds r' o' }:=hw.turn hr hB ho rfl rfl
   have hturn:m8 F G B U lw w U { lw with heap:=lw.heap.setIfInBounds r o } { w with heap:=w.heap.setIfInBounds r' o' } #[]:=
    H7 hw hw' hown sN rfl rfl rfl rfl rfl rfl rfl
   have hch:o'.isChan=false:=by cases ho<;>rfl
   rcases ih hw' (fun i=>ht i) (by simpa using hG) (by simpa using D5) (es.push ⟨.obj r,true,o.isChan⟩) (es'.push ⟨.obj r',true,o'.isChan⟩) with⟨x,kW,l,y,w1,evs,ρ1,h1,h2,h3,h4⟩|h
   .refine .inl ⟨x,kW,l,y,w1,#[⟨.obj r',true,o'.isChan⟩]++(#[]++evs),ρ1,h1,?_,h3,(hturn.trans h4 hw.base).push (.inr (.inl ⟨r',rfl,hch,⟨_,hr⟩,fun _=>hown⟩))⟩;exact h2.trans (by simp only[qK,fD])
   exact .inr h
  |@number a1 a2 k1 hs=>
   simp only
   have hB:¬B r:=fun hl=>by
    obtain⟨_,_,_,h,_⟩:=hfz hl;cases h
   have hown:U.owns B r':=⟨r,hB,hr⟩
   have hw':WR F G B U { lw with heap:=lw.heap.setIfInBounds r o } { w with heap:=w.heap.setIfInBounds r' o' }:=hw.turn hr hB ho rfl rfl
   have hturn:m8 F G B U lw w U { lw with heap:=lw.heap.setIfInBounds r o } { w with heap:=w.heap.setIfInBounds r' o' } #[]:=
    H7 hw hw' hown sN rfl rfl rfl rfl rfl rfl rfl
   have hch:o'.isChan=false:=by cases ho<;>rfl
   rcases ih hw' (fun i=>ht i) (by simpa using hG) (by simpa using D5) (es.push ⟨.obj r,true,o.isChan⟩) (es'.push ⟨.obj r',true,o'.isChan⟩) with⟨x,kW,l,y,w1,evs,ρ1,h1,h2,h3,h4⟩|h
   .refine .inl ⟨x,kW,l,y,w1,#[⟨.obj r',true,o'.isChan⟩]++(#[]++evs),ρ1,h1,?_,h3,(hturn.trans h4 hw.base).push (.inr (.inl ⟨r',rfl,hch,⟨_,hr⟩,fun _=>hown⟩))⟩;exact h2.trans (by simp only[qK,fD])
   exact .inr h
 |@choose U q k k' _ ih=>
  intro lw w hw ht hG D5 es es';simp only[dK];split
  .exact ih 0 hw ht hG D5 es es'
  have h0:lw.tape lw.drawn=w.tape w.drawn:=ht 0;rw[h0];have hd:=H9 hw;rcases ih (q.cut (w.tape w.drawn q)) hd.wr (hd.Zx ht) hG D5 es es' with⟨x,kW,l,y,w1,evs,ρ1,h1,h2,h3,h4⟩|h
  .exact .inl ⟨x,kW,l,y,w1,_,ρ1,h1,by rw[h2];simp,h3,hd.trans h4 hw.base⟩
  exact .inr h
 |@program U k k' _ ih=>
  intro lw w hw ht hG D5 es es';simp only[dK];exact ih hw ht hG D5 es es'
 |@noRoom U k k' _ ih=>
  intro lw w hw ht hG D5 es es';simp only[dK];rcases ih hw ht hG D5 (es.push ⟨.mark .noRoom,false,true⟩) (es'.push ⟨.mark .noRoom,false,true⟩) with⟨x,kW,l,y,w1,evs,ρ1,h1,h2,h3,h4⟩|h
  .refine .inl ⟨x,kW,l,y,w1,_,ρ1,h1,?_,h3,h4.push (e:=⟨.mark .noRoom,false,true⟩) (.inr (.inr rfl))⟩;exact h2.trans (by simp only[qK,fD])
  exact .inr h
end
section
variable{P:aN}{F:Nat->Bool}{α β γ Z:Type}{A:Rn->α->β->Prop}{A':Rn->γ->Z->Prop}{U:Rn}
abbrev Same(U:Rn)(C:α->Prop):Rn->α->α->Prop:=At U fun a b=>a=b/\C a
theorem cu.bM{C:α->Prop}{s s':iT α}{f:α->iT γ}{f':α->iT Z}(h:cu P F (Same U C) U s s')(hf:∀a,C a->cu P F A' U (f a) (f' a)) :
  cu P F A' U (s >>= f) (s' >>= f'):=h.dO fun a b ⟨e,hc⟩=>by subst e;exact hf a hc
theorem wW{C:α->Prop}{a:α}(h:C a):cu P F (Same U C) U (eZ a) (eZ a):=.pure ⟨rfl,rfl,h⟩
theorem cY{a:α}:cu P F (Same U fun _=>True) U (eZ a) (eZ a):=.pure ⟨rfl,rfl,trivial⟩
theorem kG{f:aN->iT α}{f':aN->iT β}(h:cu P F A U (f P) (f' P)):cu P F A U (Go.program >>= f) (Go.program >>= f'):=.program h
theorem dv{t:a7}:cu P F (Same U fun d=>P.underlying t=some d) U (ji t) (ji t):=by
 unfold ji;refine kG ?_;cases h:P.underlying t with
 |none=>exact bt
 |some d=>exact wW rfl
theorem jI{t:a7}:cu P F (Same U fun d=>P.info? t=some d) U (ly t) (ly t):=by
 unfold ly;refine kG ?_;cases h:P.info? t with
 |none=>exact bt
 |some d=>exact wW rfl
theorem ic{t:a7}:cu P F (Same U fun n=>∃i,P.info? t=some i/\n=i.size) U (sizeOf t) (sizeOf t):=by
 unfold sizeOf;refine jI.bM fun i hi=>?_;exact wW ⟨i,hi,rfl⟩
theorem Ep{t:a7}:cu P F (Same U fun _=>True) U (isAgg t) (isAgg t):=by
 unfold isAgg;refine dv.bM fun d _=>?_;cases d<;>exact cY
def oP(P:aN)(t:a7):Bool:=((P.info? t).bind (·.zero)).all Fz
theorem lN{t:a7}(h:oP P t=true):cu P F (At U (VR F U)) U (je t) (je t):=by
 unfold je;refine jI.bM fun i hi=>?_;unfold oP at h;rw[hi] at h;cases hz:i.zero with
 |none=>exact cI (fun g=>by simp)
 |some v=>
  simp only[gW,hz,Option.all_some] at h;exact .dB (Af h)
theorem Il{a a':cX}(ha:AR U a a'):cu P F (At U (VR F U)) U (load a) (load a'):=.load ha fun v v' hv=>.dB hv
theorem qH{a a':cX}(ha:AR U a a'):∀(n i:Nat) {acc Zf:Array aj},iZ F U acc Zf->cu P F (At U (iZ F U)) U (loadCellsFrom a i n acc) (loadCellsFrom a' i n Zf)
 |0,i,acc,Zf,h=>.dB h
 |n+1,i,acc,Zf,h=>(Il (ha.add i)).dO fun v v' hv=>qH ha n (i+1) (h.push hv)
theorem vO{a a':cX}(ha:AR U a a')(n:Nat):cu P F (At U (iZ F U)) U (loadCells a n) (loadCells a' n):=qH ha n 0 .nil
theorem zy{t:a7}{a a':cX}(ha:AR U a a'):cu P F (At U (VR F U)) U (loadVar t a) (loadVar t a'):=by
 unfold loadVar;refine Ep.bM fun b _=>?_;cases b with
 |true=>exact ic.bM fun n _=>(vO ha n).dO fun cs cs' h=>.dB h.agg
 |false=>exact Il ha
theorem N4{a a':cX}{v v':aj}(ha:AR U a a')(hv:VR F U v v'):cu P F (At U fun _ _=>True) U (store a v) (store a' v'):=.store ha hv (.dB trivial)
inductive Tn(F:Nat->Bool)(U:Rn):List aj->List aj->Prop
 |nil:Tn F U [] []
 |cons {x y:aj} {l m:List aj}:VR F U x y->Tn F U l m->Tn F U (x::l) (y::m)
theorem aaY{l m:List aj}(hs:l.length=m.length)(h:∀(i:Nat) (x y:aj),l[i]?=some x->m[i]?=some y->VR F U x y):Tn F U l m:=by
 induction l generalizing m with
 |nil=>
  cases m with
  |nil=>exact .nil
  |cons y m=>cases hs
 |cons x l ih=>
  cases m with
  |nil=>cases hs
  |cons y m=>exact .cons (h 0 x y rfl rfl) (ih (by simpa using hs) fun i a b h1 h2=>h (i+1) a b (by simpa using h1) (by simpa using h2))
theorem iZ.list{a a':Array aj}(h:iZ F U a a'):Tn F U a.toList a'.toList:=aaY (by simpa using h.size) fun i x y h1 h2=>h.at_ i x y (by simpa using h1) (by simpa using h2)
theorem Tn.row{l m:List aj}(h:Tn F U l m):iZ F U l.toArray m.toArray:=by
 induction h with
 |nil=>exact .nil
 |@cons x y l m hv _ ih=>
  have:=(iZ.one hv).append ih;simpa using this
theorem uR{a a':cX}(ha:AR U a a'){l m:List aj}(h:Tn F U l m):∀i,cu P F (At U fun _ _=>True) U (storeCells a l i) (storeCells a' m i):=by
 induction h with
 |nil=>intro i;exact .dB trivial
 |cons hv _ ih=>intro i;exact(N4 (ha.add i) hv).dO fun _ _ _=>ih (i+1)
theorem GG{t:a7}{a a':cX}{v v':aj}(ha:AR U a a')(hv:VR F U v v'):cu P F (At U fun _ _=>True) U (storeVar t a v) (storeVar t a' v'):=by
 unfold storeVar;refine ic.bM fun n _=>?_;rw[<-hv.cells.size];split
 .exact .dead ((rU (h:=.stuck _) trivial).bind _)
 exact uR ha hv.cells.list 0
theorem vN{e:a7}{cs cs':Array aj}(h:iZ F U cs cs'):cu P F AR U (newRow e cs) (newRow e cs'):=by
 unfold newRow;exact cu.bind (A:=fun U' r r'=>U' r=some r') (.new (.cells h fun i h1 h2=>absurd h2 (Nat.not_lt_zero _)) fun U' r r' _ hr=>.pure hr) fun U' r r' _ hr=>.pure ⟨hr,rfl,rfl⟩
theorem Cw{e:a7}{v v':aj}(h:VR F U v v'):cu P F AR U (newVar e v) (newVar e v'):=vN h.cells
theorem oa{t:a7}{cs cs':Array aj}(h:iZ F U cs cs')(off:Nat):cu P F (At U (VR F U)) U (part t cs off) (part t cs' off):=by
 unfold part;refine Ep.bM fun b _=>?_;cases b with
 |true=>exact ic.bM fun n _=>.dB (h.extract _ _).agg
 |false=>
  simp only[bG,if_false];cases hx:cs[off]? with
  |none=>exact bt
  |some x=>
   obtain⟨y,hy,hv⟩:=h.get hx;rw[hy];exact .dB hv
theorem qG{r r':Nat}(h:U r=some r'):cu P F (Same U fun _=>True) U (shape r) (shape r'):=.shape h fun s=>cY
theorem GI{r r':Nat}(h:U r=some r'):cu P F (At U fun x y=>(x=none/\y=none)\/∃a a' l,x=some (a,l)/\y=some (a',l)/\AR U a a') U (numberAt r) (numberAt r'):=by
 unfold numberAt;refine(qG h).bM fun s _=>?_;split
 .exact .dB (.inl ⟨rfl,rfl⟩)
 .refine cu.dO (Q:=OR F U) (.getObj h fun o o' ho=>.dB ho) fun o o' ho=>?_;cases ho with
  |cells _ _=>exact .dB (.inl ⟨rfl,rfl⟩)
  |map _ _=>exact .dB (.inl ⟨rfl,rfl⟩)
  |number l ha=>exact .dB (.inr ⟨_,_,l,rfl,rfl,ha⟩)
theorem iK{a a':cX}(h:AR U a a'):cu P F (At U fun x y=>AR U x.1 y.1/\x.2=y.2) U (vC a) (vC a'):=by
 unfold vC;refine(GI h.block).dO fun x y hxy=>?_;rcases hxy with⟨rfl,rfl⟩|⟨b,b',l,rfl,rfl,hb⟩
 .exact .dB ⟨h,rfl⟩
 exact .dB ⟨hb,rfl⟩
theorem Ct{r r':Nat}(h:U r=some r'):cu P F (At U fun x y=>x=none/\y=none) U (viewAt r) (viewAt r'):=by
 unfold viewAt;refine(qG h).bM fun s _=>?_;split
 .exact .dB ⟨rfl,rfl⟩
 refine cu.dO (Q:=OR F U) (.getObj h fun o o' ho=>.dB ho) fun o o' ho=>?_;cases ho<;>exact .dB ⟨rfl,rfl⟩
theorem Lr{a a':cX}(h:AR U a a'):cu P F (At U fun _ _=>True) U (noView a) (noView a'):=by
 unfold noView;refine(Ct h.block).dO fun x y ⟨hx,hy⟩=>?_;subst hx;subst hy;exact .dB trivial
theorem uq{v v':aj}(h:VR F U v v'):cu P F (Same U fun x=>v=.int x.1 x.2/\v'=.int x.1 x.2) U (asIntOf v) (asIntOf v'):=by
 cases h<;>first|exact .pure ⟨rfl,rfl,rfl,rfl⟩|exact bt|exact cI sN
theorem N9{v v':aj}(h:VR F U v v'):cu P F (Same U fun n=>∃k,v=.int k n/\v'=.int k n) U (asInt v) (asInt v'):=by
 unfold asInt;exact(uq h).bM fun x hx=>wW ⟨_,hx⟩
theorem LA{a a':cX}(h:AR U a a'):cu P F (Same U fun _=>True) U (byteOf a) (byteOf a'):=by
 unfold byteOf;rw[h.spot];cases a.spot with
 |some s=>exact cY
 |none=>
  simp only[pure_bind];refine kG ?_;refine(Lr h).dO fun _ _ _=>(qG h.block).bM fun s _=>?_;cases s with
  |none=>exact bt
  |some x=>
   obtain⟨e,n⟩:=x;simp only[h.off];split
   .exact cY
   .cases byteOfCell P P.depth e (a.off % P.cellsOf e) with
    |none=>exact bt
    |some b=>exact cY
theorem pY{α:Type}{e:RuntimeError}(h:∀i c a m,e≠.typeAssertion i c a m)(h':e≠.panicNil):rr P (eJ e:iT α):=by
 intro w es;cases e with
 |typeAssertion i c a m=>exact absurd rfl (h _ _ _ _)
 |panicNil=>exact absurd rfl h'
 |_=>exact⟨_,w,es,rfl,trivial⟩
theorem gQ{e:RuntimeError}{s':iT β}(h:∀i c a m,e≠.typeAssertion i c a m:=by simp)(h':e≠.panicNil:=by simp):cu P F A U (eJ e) s':=.dead (pY h h')
theorem fK{u:Unsupported}(h:∀g,u≠.initOrder g):rr P (rD u:iT α):=rU (by cases u<;>first|trivial|exact absurd rfl (h _))
theorem vQ{q:dQ}:cu P F (Same U fun _=>True) U (AV q) (AV q):=.choose fun n=>cY
theorem l6{k:IntKind}{x y:Int}{c:BoundsCode}:cu P F A U (boundsPanic k x y c:iT α) (boundsPanic k x y c:iT β):=by
 unfold boundsPanic;dsimp only;split
 .refine cu.bind (A:=fun _ _ _=>True) (cu.bind (A:=fun _ _ _=>True) (vQ.imp fun _ _ _ _ _=>trivial) fun _ _ _ _ _=>.pure trivial) fun U' a b _ _=>?_;exact gQ
 refine cu.bind (A:=fun _ _ _=>True) (.pure trivial) fun U' a b _ _=>?_;exact gQ
theorem vL{ts ts':Array a7}{t t':a7}{p p':Option cX}{v v':aj}(hp:VR F U (.pointer p) (.pointer p'))(hv:VR F U v v') :
  cu P F (At U fun x y=>∃a a',AR U a a'/\x=.pointer (some a)/\y=.pointer (some a')) U (Builtin.unsafeAdd_ ts t #[.pointer p,v]) (Builtin.unsafeAdd_ ts' t' #[.pointer p',v']):=by
 unfold Builtin.unsafeAdd_;refine(N9 hv).bM fun n _=>?_
 by_cases h0:n=0
 .simp only[h0,if_true];cases hp with
  |Dl=>exact .dead ((fK sN).bind _)
  |ptr ha=>
   simp only[bind_assoc];refine(Ct ha.block).dO fun x y ⟨hx,hy⟩=>?_;subst hx;subst hy;exact .dB ⟨_,_,ha,rfl,rfl⟩
 simp only[h0,if_false,pure_bind]
 by_cases h1:n<0
 .simp only[h1,if_true];exact .dead ((fK sN).bind _)
 .simp only[h1,if_false,pure_bind];cases hp with
  |Dl=>exact cI sN
  |@ptr a a' ha=>
   refine(qG ha.block).bM fun s _=>?_;cases s with
   |none=>exact cI sN
   |some x=>
    obtain⟨e,n'⟩:=x;refine kG ?_;simp only[ha.off];cases cellAtBytes P P.depth e (n' / P.cellsOf e) a.off n with
    |none=>exact cI sN
    |some off=>exact .dB ⟨_,_,ha.at off,rfl,rfl⟩
theorem GN{a a':cX}(ha:AR U a a')(l:Bool):cu P F (VR F) U (asNumber a l) (asNumber a' l):=by
 unfold asNumber;exact cu.bind (A:=fun U' r r'=>U' r=some r') (.new (.number l ha) fun U' r r' _ hr=>.pure hr) fun U' r r' _ hr=>.pure (.ptr ⟨hr,rfl,rfl⟩)
end
structure Wn(P:aN)(U:Rn):Prop where
 inj:∀a b c,U a=some c->U b=some c->a=b
 low:∀b c,U b=some c->P.globals.size<=b/\P.globals.size<=c
def AR.eq_iff{U:Rn}(hi:∀a b c,U a=some c->U b=some c->a=b){a a' b b':cX}(ha:AR U a a')(hb:AR U b b'):a=b↔a'=b':=by
 constructor
 .rintro rfl;have h1:=ha.block;rw[hb.block] at h1;injection h1 with h1
  cases a';cases b';have:=ha.off;have:=hb.off;have:=ha.spot;have:=hb.spot;simp_all
 rintro rfl;have:=hi _ _ _ ha.block hb.block;cases a;cases b;have:=ha.off;have:=hb.off;have:=ha.spot;have:=hb.spot;simp_all
section
variable{P:aN}{F:Nat->Bool}{α β γ Z:Type}{A:Rn->α->β->Prop}{A':Rn->γ->Z->Prop}{U:Rn}
theorem yu{t:a7}{k:IntKind}(ht:P.underlying t=some (.int k)){p p':Option cX}(hp:VR F U (.pointer p) (.pointer p')){v v':aj}(hv:VR F U v v') :
  cu P F (VR F) U (movedNumber t (.pointer p) v) (movedNumber t (.pointer p') v'):=by
 unfold movedNumber;refine dv.bM fun d hd=>?_;rw[ht] at hd;cases hd;simp only[bG,if_false,pure_bind];cases hp with
 |Dl=>
  refine(vL (.Dl) hv).imp fun U' x y _ h=>?_;obtain⟨rfl,a,a',ha,rfl,rfl⟩:=h;exact .ptr ha
 |ptr ha=>
  refine(iK ha).dO fun x y hxy=>?_;obtain⟨x1,x2⟩:=x;obtain⟨y1,y2⟩:=y;obtain⟨h1,h2⟩:=hxy;simp only at h1 h2;subst h2;refine(vL (.ptr h1) hv).dO fun x y hxy=>?_;obtain⟨a,a',ha,rfl,rfl⟩:=hxy;exact GN ha _
theorem Js{k:IntKind}{a a':cX}(ha:AR U a a')(n:Int):cu P F (VR F) U (Op.addrMod k a n) (Op.addrMod k a' n):=by
 unfold Op.addrMod;refine(qG ha.block).bM fun s _=>?_;cases s with
 |none=>exact cI sN
 |some x=>
  obtain⟨e,m⟩:=x;refine jI.bM fun i _=>?_;dsimp only;split
  .exact .dead ((fK sN).bind _)
  refine(LA ha).bM fun b _=>?_;exact .pure (.int _ _)
theorem vM(R:Wn P U){a a' b b':cX}(ha:AR U a a'){f:Nat × Nat->iT α}{s':iT β}:cu P F A U (Op.twoPlaces a b >>= f) s':=by
 refine .dead (rr.bind ?_ f);unfold Op.twoPlaces;intro w es;have h:=(R.low _ _ ha.block).1;have hh:(a.block !=b.block||decide (a.block≥P.globals.size))=true:=by simp[h]
 have hp:∀ {γ:Type} (f:aN->iT γ),(Go.program >>= f).runT P w es=(f P).runT P w es:=fun f=>rfl;rw[hp];dsimp only;rw[if_pos hh];exact((fK sN).bind _) w es
theorem GL{op:BinOp}{k:IntKind}{a b:Int}:cu P F (VR F) U (Op.intArith op k a b) (Op.intArith op k a b):=by
 unfold Op.intArith;split<;>first|exact .pure (.int _ _)|exact bt
theorem Lv{op:BinOp}{k:IntKind}{a b:Int}:cu P F (VR F) U (Op.intDiv op k a b) (Op.intDiv op k a b):=by
 unfold Op.intDiv;split
 .exact gQ
 split<;>first|exact .pure (.int _ _)|exact bt
theorem Jn{op:BinOp}{k:IntKind}{a b:Int}:cu P F (VR F) U (Op.intBits op k a b) (Op.intBits op k a b):=by
 unfold Op.intBits;dsimp only;split<;>first|exact .pure (.int _ _)|exact bt
theorem Lx{op:BinOp}{a b:Int}:cu P F (VR F) U (Op.intCmp op a b) (Op.intCmp op a b):=by
 unfold Op.intCmp;split<;>first|exact .pure (.bool _)|exact bt
theorem El{op:BinOp}{k k':IntKind}{a b:Int}:cu P F (VR F) U (Op.shift op k a k' b) (Op.shift op k a k' b):=by
 unfold Op.shift;split
 .exact gQ
 dsimp only;split<;>first|exact .pure (.int _ _)|exact bt
theorem xT{op:BinOp}{a b:ByteArray}:cu P F (VR F) U (Op.stringOp op a b) (Op.stringOp op a b):=by
 unfold Op.stringOp;dsimp only;split
 .split
  .exact cI sN
  exact .pure (.string _)
 all_goals first|exact .pure (.bool _)|exact bt
def ZA:BinOp->Bool
 |.add|.sub|.mul|.quo|.shl|.shr|.and|.or|.lss|.leq|.gtr|.geq=>true
 |_=>false
theorem vP{op:BinOp}{t:a7}{k k':IntKind}{a b:Int}:cu P F (VR F) U (binOp op t (.int k a) (.int k' b)) (binOp op t (.int k a) (.int k' b)):=by
 by_cases hk:k=k'
 .cases op<;>simp only[binOp,hk,ne_eq,not_true,not_false_eq_true,if_true,if_false]<;>first|exact GL|exact Lv|exact Jn|exact Lx|exact El
 cases op<;>simp only[binOp,hk,ne_eq,not_true,not_false_eq_true,if_true,if_false]<;>first|exact bt|exact El
theorem N8(R:Wn P U){op:BinOp}{t:a7}{k:IntKind}(ht:P.underlying t=some (.int k))(hop:ZA op=true){x x' y y':aj}(hx:VR F U x x')(hy:VR F U y y') :
  cu P F (VR F) U (binOp op t x y) (binOp op t x' y'):=by
 have adX:∀ {p p':Option cX} {v v':aj},VR F U (.pointer p) (.pointer p')->VR F U v v'->
   cu P F (VR F) U (do if (<-ji t) matches .unsafePointer then movedPointer t (.pointer p) v else movedNumber t (.pointer p) v) (do if (<-ji t) matches .unsafePointer then movedPointer t (.pointer p') v' else movedNumber t (.pointer p') v'):=by
  intro p p' v v' hp hv;refine dv.bM fun d hd=>?_;rw[ht] at hd;cases hd;exact yu ht hp hv
 have pp:∀ {a a' b b':cX} (g:cX->cX->iT aj) (g':cX->cX->iT aj),(∀c d c' d',AR U c c'->AR U d d'->cu P F (VR F) U (g c d) (g' c' d'))->AR U a a'->AR U b b'->
   cu P F (VR F) U (do g (<-vC a).1 (<-vC b).1) (do g' (<-vC a').1 (<-vC b').1):=by
  intro a a' b b' g g' hg ha hb;exact(iK ha).dO fun c c' hc=>(iK hb).dO fun d d' hd=>hg _ _ _ _ hc.1 hd.1
 have pm:∀ {a a':cX} (k:IntKind) (n:Int),AR U a a'->cu P F (VR F) U (do Op.addrMod k (<-vC a).1 n) (do Op.addrMod k (<-vC a').1 n):=by
  intro a a' k n ha;exact(iK ha).dO fun c c' hc=>Js hc.1 n
 have aiq:∀c d c' d',AR U c c'->AR U d d'->cu P F (VR F) U (Op.addrSub .u64 c d) (Op.addrSub .u64 c' d'):=fun c d c' d' hc hd=>by
  unfold Op.addrSub;exact vM R hc (b':=d')
 have OY:∀op c d c' d',AR U c c'->AR U d d'->cu P F (VR F) U (Op.addrCmp op c d) (Op.addrCmp op c' d'):=fun op c d c' d' hc hd=>by
  unfold Op.addrCmp;exact vM R hc (b':=d')
 have ais:∀op a b,binOp op t (.string a) (.string b)=Op.stringOp op a b:=fun op a b=>by cases op<;>simp only[binOp]
 cases hx<;>cases hy<;>first
  |exact vP
  |(rw[ais];exact xT)
  |(cases op<;>first|(cases hop;done)|exact xT|exact bt|exact cI sN|exact adX (.ptr ‹_›) (.int _ _)|exact adX .Dl (.int _ _)|exact yu ht (.ptr ‹_›) (.int _ _)|exact yu ht .Dl (.int _ _)|exact pp _ _ aiq ‹_› ‹_›|exact pp _ _ (OY _) ‹_› ‹_›|exact pm _ _ ‹_›)
end
def pO(P:aN):Nat->a7->Bool
 |0,_=>false
 |n+1,t=>
  match P.underlying t with
  |some (.struct fs)=>fs.all fun f=>pO P n f.type
  |some (.array _ e)=>pO P n e
  |some .bool|some .string|some (.int _)|none=>true
  |_=>false
section
variable{P:aN}{F:Nat->Bool}{α β γ Z:Type}{A:Rn->α->β->Prop}{A':Rn->γ->Z->Prop}{U:Rn}
theorem uS{ι:Type}{f f':ι->β->iT (ForInStep β)}{l:List ι}(hf:∀a∈l,∀b,cu P F (Same U fun _=>True) U (f a b) (f' a b)):∀b,cu P F (Same U fun _=>True) U (forIn l b f) (forIn l b f'):=by
 induction l with
 |nil=>intro b;exact cY
 |cons a l ih=>
  intro b;rw[List.forIn_cons,List.forIn_cons];refine(hf a sN b).bM fun r _=>?_;cases r with
  |done b=>exact cY
  |yield b=>exact ih (fun a ha=>hf a (by simp[ha])) b
theorem tE{ι:Type}{f f':ι->β->iT (ForInStep β)}{l:Array ι}(hf:∀a∈l,∀b,cu P F (Same U fun _=>True) U (f a b) (f' a b))(b:β):cu P F (Same U fun _=>True) U (forIn l b f) (forIn l b f'):=by
 rw[<-Array.forIn_toList,<-Array.forIn_toList];exact uS (fun a ha=>hf a (by simpa using ha)) _
theorem tD{f f':Nat->β->iT (ForInStep β)}(hf:∀a b,cu P F (Same U fun _=>True) U (f a b) (f' a b))(l:Std.Legacy.Range)(b:β):cu P F (Same U fun _=>True) U (forIn l b f) (forIn l b f'):=by
 rw[rF,rF];exact uS (fun a _=>hf a) _
theorem qa(R:Wn P U):∀(n d:Nat) (t:a7),pO P n t=true->∀(x x' y y':aj),VR F U x x'->VR F U y y'->cu P F (Same U fun _=>True) U (uf d t x y) (uf d t x' y')
 |0,d,t,h,x,x',y,y',hx,hy=>by cases h
 |n+1,0,t,h,x,x',y,y',hx,hy=>by simp only[uf];exact cI sN
 |n+1,d+1,t,h,x,x',y,y',hx,hy=>by
  simp only[uf];refine dv.bM fun ds Mx=>?_;simp only[pO,Mx] at h;cases ds with
  |bool=>cases hx<;>first|exact bt|(cases hy<;>first|exact bt|exact cY)
  |string=>cases hx<;>first|exact bt|(cases hy<;>first|exact bt|exact cY)
  |int k=>
   cases hx with
   |int k1 m=>
    cases hy with
    |int k2 m2=>dsimp only;split<;>first|exact cY|exact bt
    |ptr ha=>
     cases m with
     |ofNat n=>
      cases n with
      |zero=>exact cY
      |succ n=>exact cI sN
     |negSucc n=>exact cI sN
    |_=>first|exact bt|exact cI sN
   |ptr ha=>
    cases hy with
    |int k2 m2=>
     cases m2 with
     |ofNat n=>
      cases n with
      |zero=>exact cY
      |succ n=>exact cI sN
     |negSucc n=>exact cI sN
    |ptr hb=>
     dsimp only;refine(iK ha).dO fun c c' hc=>(iK hb).dO fun d d' hd=>kG ?_
     have e1:(c.fst.block==d.fst.block&&decide (c.fst.block<P.globals.size))=false:=by
      have:=(R.low _ _ hc.1.block).1;simp;omega
     have e2:(c'.fst.block==d'.fst.block&&decide (c'.fst.block<P.globals.size))=false:=by
      have:=(R.low _ _ hc.1.block).2;simp;omega
     simp only[e1,e2,bG,if_false];refine jI.bM fun i _=>?_;split
     .have e3:=hc.1.eq_iff R.inj hd.1
      by_cases he:c.fst=d.fst
      .simp only[he,beq_self_eq_true,if_true,e3.1 he];exact cY
      have he':=fun h=>he (e3.2 h);simp only[beq_eq_false_iff_ne.2 he,bG,if_false];exact cI sN
     exact cI sN
    |_=>first|exact bt|exact cI sN
   |_=>cases hy<;>first|exact bt|exact cI sN
  |struct fs=>
   cases hx<;>first|exact bt|(cases hy<;>first|exact bt|skip)
   rename_i cs cs' hs hv ds ds' hs' hv';dsimp only;refine kG ?_;split
   .exact .dead ((fK sN).bind _)
   refine cu.bM (C:=fun _=>True) (tE (fun f hf b=>?_) _) fun r _=>?_
   .split
    .refine(oa ⟨hs,hv⟩ _).dO fun p p' hp=>(oa ⟨hs',hv'⟩ _).dO fun q q' hq=>?_;refine(qa R n d f.type (kn.1 h f hf) _ _ _ _ hp hq).bM fun b _=>?_;split<;>exact cY
    exact cY
   split<;>exact cY
  |array len e=>
   cases hx<;>first|exact bt|(cases hy<;>first|exact bt|skip)
   rename_i cs cs' hs hv ds ds' hs' hv';dsimp only;refine ic.bM fun m _=>?_;refine cu.bM (C:=fun _=>True) (tD (fun i b=>?_) _ _) fun r _=>?_
   .refine(oa ⟨hs,hv⟩ _).dO fun p p' hp=>(oa ⟨hs',hv'⟩ _).dO fun q q' hq=>?_;refine(qa R n d e h _ _ _ _ hp hq).bM fun b _=>?_;split<;>exact cY
   split<;>exact cY
  |_=>cases h
theorem oG{em:Bool}:∀(n d:Nat) (t:a7),pO P n t=true->∀(x x':aj),VR F U x x'->cu P F (Same U fun _=>True) U (nW em d t x) (nW em d t x')
 |0,d,t,h,x,x',hx=>by cases h
 |n+1,0,t,h,x,x',hx=>by simp only[nW];exact cI sN
 |n+1,d+1,t,h,x,x',hx=>by
  simp only[nW];refine dv.bM fun ds Mx=>?_;simp only[pO,Mx] at h;cases ds with
  |bool=>cases hx<;>exact cY
  |string=>cases hx<;>exact cY
  |int k=>cases hx<;>exact cY
  |struct fs=>
   cases hx<;>first|exact bt|skip
   rename_i cs cs' hs hv;dsimp only;refine cu.bM (C:=fun _=>True) (tE (fun f hf b=>?_) _) fun _ _=>cY;split
   .refine(oa ⟨hs,hv⟩ _).dO fun p p' hp=>?_;refine(oG n d f.type (kn.1 h f hf) _ _ hp).bM fun b _=>?_;exact cY
   exact cY
  |array len e=>
   cases hx<;>first|exact bt|skip
   rename_i cs cs' hs hv;dsimp only;refine cu.bM (C:=fun _=>True) (tD (fun i b=>?_) _ _) fun _ _=>cY;refine ic.bM fun m _=>(oa ⟨hs,hv⟩ _).dO fun p p' hp=>?_;refine(oG n d e h _ _ hp).bM fun b _=>?_;exact cY
  |_=>cases h
inductive EL(F:Nat->Bool)(U:Rn):List uM->List uM->Prop
 |nil:EL F U [] []
 |cons {x y:uM} {l m:List uM}:MER F U x y->EL F U l m->EL F U (x::l) (y::m)
theorem aaj{l m:List uM}(hs:l.length=m.length)(h:∀(i:Nat) (x y:uM),l[i]?=some x->m[i]?=some y->MER F U x y):EL F U l m:=by
 induction l generalizing m with
 |nil=>
  cases m with
  |nil=>exact .nil
  |cons y m=>cases hs
 |cons x l ih=>
  cases m with
  |nil=>cases hs
  |cons y m=>exact .cons (h 0 x y rfl rfl) (ih (by simpa using hs) fun i a b h1 h2=>h (i+1) a b (by simpa using h1) (by simpa using h2))
def Fnd(F:Nat->Bool)(U:Rn)(x y:Option (Nat × aj)):Prop:=(x=none/\y=none)\/∃i v v',x=some (i,v)/\y=some (i,v')/\VR F U v v'
theorem Dj(R:Wn P U){n:Nat}{t:a7}(h:pO P n t=true){k k':aj}(hk:VR F U k k'){l m:List uM}(he:EL F U l m) :
  ∀i,cu P F (At U (Fnd F U)) U (jC t k l i) (jC t k' m i):=by
 induction he with
 |nil=>intro i;exact .dB (.inl ⟨rfl,rfl⟩)
 |cons hx _ ih=>
  intro i;simp only[jC];refine(qa R n _ t h _ _ _ _ hk hx.key).bM fun b _=>?_;cases b with
  |true=>exact .dB (.inr ⟨i,_,_,rfl,rfl,hx.val⟩)
  |false=>exact ih (i+1)
theorem Rs{ds:TypeDesc}{k k' e e':aj}(hk:VR F U k k')(he:VR F U e e'):Instr.sameNow ds k e=Instr.sameNow ds k' e':=by
 cases ds<;>cases hk<;>first|rfl|(cases he<;>rfl)
theorem SM{ds:TypeDesc}{k k':aj}(hk:VR F U k k'){l m:List uM}(he:EL F U l m):∀i,
  (Instr.findNow ds k l i=none/\Instr.findNow ds k' m i=none)\/∃x y,Instr.findNow ds k l i=some x/\Instr.findNow ds k' m i=some y/\Fnd F U x y:=by
 induction he with
 |nil=>intro i;exact .inr ⟨none,none,rfl,rfl,.inl ⟨rfl,rfl⟩⟩
 |cons hx _ ih=>
  intro i;simp only[Instr.findNow,<-Rs (ds:=ds) hk hx.key];split
  .exact .inr ⟨_,_,rfl,rfl,.inr ⟨i,_,_,rfl,rfl,hx.val⟩⟩
  .exact ih (i+1)
  exact .inl ⟨rfl,rfl⟩
theorem zB(R:Wn P U){n:Nat}{t:a7}(h:pO P n t=true){k k':aj}(hk:VR F U k k'){l m:List uM}(he:EL F U l m) :
  cu P F (At U (Fnd F U)) U (DK t k l) (DK t k' m):=by
 unfold DK;refine dv.bM fun ds _=>?_;rcases SM (ds:=ds) hk he 0 with⟨h1,h2⟩|⟨x,y,h1,h2,h3⟩
 .simp only[h1,h2];exact Dj R h hk he 0
 simp only[h1,h2];exact .dB h3
def Ut(P:aN)(t:a7):Bool:=match P.underlying t with|some (.map k e)=>pO P 6 k&&oP P e|_=>true
theorem Cz{r r':Nat}(h:U r=some r'):cu P F (At U (OR F U)) U (getObj r) (getObj r'):=.getObj h fun o o' ho=>.dB ho
theorem Lt(R:Wn P U){t:a7}(ht:Ut P t=true){x x' k k':aj}(hx:VR F U x x')(hk:VR F U k k')(ok:Bool) :
  cu P F (At U (VR F U)) U (Instr.lookup t x k ok) (Instr.lookup t x' k' ok):=by
 unfold Instr.lookup;refine dv.bM fun ds Mx=>?_;cases ds<;>first|exact bt|skip
 rename_i kt et;simp only[Ut,Mx,aJ] at ht;dsimp only
 have rest:∀ {es es':Array uM},es.size=es'.size->EL F U es.toList es'.toList->cu P F (At U (VR F U)) U
   (do
     nW es.isEmpty 10000 kt k
     let (v,o) <-match <-DK kt k es.toList with
      |some (_,v)=>pure (v,true)
      |none=>pure (<-je et,false)
     pure (if ok then .tuple #[v,.bool o] else v))
   (do
     nW es'.isEmpty 10000 kt k'
     let (v,o) <-match <-DK kt k' es'.toList with
      |some (_,v)=>pure (v,true)
      |none=>pure (<-je et,false)
     pure (if ok then .tuple #[v,.bool o] else v)):=by
  intro es es' hs he;have hem:es'.isEmpty=es.isEmpty:=by simp[Array.isEmpty,hs]
  rw[hem];refine(oG 6 _ kt ht.1 _ _ hk).bM fun _ _=>(zB R ht.1 hk he).dO fun p q hpq=>?_
  have fin:∀ {v v':aj} (b:Bool),VR F U v v'->cu P F (At U (VR F U)) U (eZ (if ok then .tuple #[v,.bool b] else v)) (eZ (if ok then .tuple #[v',.bool b] else v')):=by
   intro v v' b hv;cases ok
   .exact .dB hv
   exact .dB ((iZ.one hv).push (.bool b)).tuple
  rcases hpq with⟨rfl,rfl⟩|⟨i,v,v',rfl,rfl,hv⟩
  .exact(lN ht.2).dO fun v v' hv=>fin false hv
  exact fin true hv
 cases hx<;>first|exact bt|skip
 .exact rest rfl .nil
 .rename_i r r' hr;refine(Cz hr).dO fun o o' ho=>?_;cases ho with
  |cells _ _=>exact bt
  |number _ _=>exact bt
  |map hs he=>exact rest hs (aaj (by simpa using hs) fun i x y h1 h2=>he i x y (by simpa using h1) (by simpa using h2))
end
section
variable{P:aN}{F:Nat->Bool}{α β γ Z:Type}{A:Rn->α->β->Prop}{A':Rn->γ->Z->Prop}{U:Rn}
theorem Ma{f:aj × aj->Bool}{g:aj × aj->Bool}(h:∀x x' y y',VR F U x x'->VR F U y y'->f (x,y)=g (x',y')){l l':List aj}(hl:Tn F U l l') :
  ∀ {m m':List aj},Tn F U m m'->(l.zip m).all f=(l'.zip m').all g:=by
 induction hl with
 |nil=>intro m m' _;simp
 |cons hx _ ih=>
  intro m m' hm;cases hm with
  |nil=>simp
  |cons hy hm=>simp only[List.zip_cons_cons,dX];rw[h _ _ _ _ hx hy,ih hm]
theorem Ob(R:Wn P U):∀(n:Nat) (x x' y y':aj),VR F U x x'->VR F U y y'->Instr.sameBits n x y=Instr.sameBits n x' y':=by
 intro n
 have hp:∀ {a a' b b':cX},AR U a a'->AR U b b'->((some a==some b):Bool)=(some a'==some b'):=fun {a a' b b'} ha hb=>by
  have:=ha.eq_iff R.inj hb
  by_cases he:a=b
  .rw[he,this.1 he];simp
  have he':=fun h=>he (this.2 h);rw[beq_eq_false_iff_ne.2 (by simpa using he),beq_eq_false_iff_ne.2 (by simpa using he')]
 induction n with
 |zero=>
  intro x x' y y' hx hy
  cases hx<;>cases hy<;>first
   |rfl
   |(simp only[Instr.sameBits];exact hp ‹_› ‹_›)
 |succ n ih=>
  intro x x' y y' hx hy
  cases hx<;>cases hy<;>first
   |rfl
   |(simp only[Instr.sameBits];exact hp ‹_› ‹_›)
   |(rename_i h1 h2 _ _ h3 h4
     simp only[Instr.sameBits]
     rw[h1,h3,Ma (F:=F) (U:=U) (f:=fun(x,y)=>Instr.sameBits n x y) (g:=fun(x,y)=>Instr.sameBits n x y) (fun x x' y y' hx hy=>ih x x' y y' hx hy) (iZ.list ⟨h1,h2⟩) (iZ.list ⟨h3,h4⟩)])
theorem zA(R:Wn P U){x x' y y':aj}(hx:VR F U x x')(hy:VR F U y y'):cu P F (At U (VR F U)) U (Instr.keyThatStays x y) (Instr.keyThatStays x' y'):=by
 unfold Instr.keyThatStays;rw[<-Ob R _ _ _ _ _ hx hy];split
 .exact .dB hy
 refine vQ.bM fun n _=>?_;split
 .exact .dB hy
 exact .dB hx
theorem Cv{r r':Nat}{o o':Obj}(h:U r=some r')(ho:OR F U o o'):cu P F (At U fun _ _=>True) U (setObj r o) (setObj r' o'):=.setObj h ho (.dB trivial)
def Ow(P:aN)(t:a7):Bool:=match P.underlying t with|some (.map k _)=>pO P 6 k|_=>true
theorem Em(R:Wn P U){t:a7}(ht:Ow P t=true){x x' k k' v v':aj}(hx:VR F U x x')(hk:VR F U k k')(hv:VR F U v v') :
  cu P F (At U fun _ _=>True) U (A3 t x k v) (A3 t x' k' v'):=by
 unfold A3;refine dv.bM fun ds Mx=>?_;cases ds<;>first|exact bt|skip
 rename_i kt et;simp only[Ow,Mx] at ht;dsimp only;cases hx<;>first|exact bt|exact gQ|skip
 rename_i r r' hr;dsimp only;refine(Cz hr).dO fun o o' ho=>?_;cases ho with
 |cells _ _=>exact bt
 |number _ _=>exact bt
 |@map es es' clk hs he=>
  dsimp only;have hel:EL F U es.toList es'.toList:=aaj (by simpa using hs) fun i x y h1 h2=>he i x y (by simpa using h1) (by simpa using h2);refine(oG 6 _ kt ht _ _ hk).bM fun _ _=>(zB R ht hk hel).dO fun p q hpq=>?_;rcases hpq with⟨rfl,rfl⟩|⟨i,w,w',rfl,rfl,hw⟩
  .refine Cv hr (.map (by simp[hs]) fun i x y h1 h2=>?_);rw[lM] at h1 h2;rw[<-hs] at h2;split at h1
   .rename_i hi;simp only[hi,if_true] at h2;cases h1;cases h2;exact⟨hk,hv,rfl⟩
   rename_i hi;simp only[hi,if_false] at h2;exact he _ _ _ h1 h2
  dsimp only
  have s5:VR F U (((es[i]?).map (·.key)).getD k) (((es'[i]?).map (·.key)).getD k'):=by
   cases hx:es[i]? with
   |none=>
    have:es'[i]?=none:=by
     rw[Array.getElem?_eq_none_iff] at hx ⊢;omega
    rw[this];exact hk
   |some x=>
    have hi:i<es.size:=(ah.1 hx).1;have hi':i<es'.size:=hs▸hi;rw[aQ hi'];exact(he i x _ hx (aQ hi')).key
  refine(zA R s5 hk).dO fun key aoz hkey=>?_;refine Cv hr (.map (by simp[hs]) fun j x y h1 h2=>?_);rw[pX] at h1 h2
  by_cases hj:i=j
  .subst hj;simp only[if_true] at h1 h2;cases hx:es[i]? with
   |none=>rw[hx] at h1;cases h1
   |some x0=>
    cases hy:es'[i]? with
    |none=>rw[hy] at h2;cases h2
    |some y0=>
     rw[hx] at h1;rw[hy] at h2;cases h1;cases h2;exact⟨hkey,hv,(he _ _ _ hx hy).born⟩
  simp only[hj,if_false] at h1 h2;exact he _ _ _ h1 h2
theorem Jm{t:a7}:cu P F (VR F) U (Instr.makeMap t none) (Instr.makeMap t none):=by
 unfold Instr.makeMap;exact cu.bind (A:=fun U' r r'=>U' r=some r') (.new (.map rfl fun i x y h=>by simp at h) fun U' r r' _ hr=>.pure hr) fun U' r r' _ hr=>.pure (.map hr)
theorem oF{v v':aj}(h:VR F U v v'):cu P F (At U (AR U)) U (Instr.sureAddr v) (Instr.sureAddr v'):=by
 cases h<;>first|exact bt|exact .dB ‹_›
theorem Lu{t:a7}{v v':aj}(h:VR F U v v'):cu P F (At U (VR F U)) U (nV t v) (nV t v'):=by
 unfold nV;exact(oF h).dO fun a a' ha=>zy ha
theorem Jk{t:a7}{v v' x x':aj}(h:VR F U v v')(hx:VR F U x x'):cu P F (At U fun _ _=>True) U (Instr.storeAt t v x) (Instr.storeAt t v' x'):=by
 unfold Instr.storeAt;exact(oF h).dO fun a a' ha=>GG ha hx
def JI(P:aN)(s:a7)(f:Nat):Bool:=match P.underlying s with
 |some (.struct fs)=>(match fs[f]? with|some fl=>(match P.info? fl.type with|some i=>i.size !=0|none=>true)|none=>true)
 |_=>true
theorem Jp{s:a7}{f:Nat}(hf:JI P s f=true){v v':aj}(h:VR F U v v'):cu P F (At U (VR F U)) U (Instr.fieldAt s v f) (Instr.fieldAt s v' f):=by
 unfold Instr.fieldAt;refine dv.bM fun ds Mx=>?_;cases ds<;>first|exact bt|skip
 rename_i fs;simp only[JI,Mx] at hf;dsimp only;cases hfl:fs[f]? with
 |none=>exact bt
 |some fl=>
  rw[hfl] at hf;simp only at hf ⊢;refine(oF h).dO fun a a' ha=>?_;unfold fieldPlace;refine cu.dO (Q:=AR U) (ic.bM fun n hn=>?_) fun b b' hb=>.dB (.ptr hb);obtain⟨i,hi,rfl⟩:=hn;rw[hi] at hf;have hne:¬i.size=0:=by simpa using hf
  simp only[hne,if_false];exact .dB (ha.add _)
theorem Jo{t:a7}{v v' i i':aj}(h:VR F U v v')(hi:VR F U i i'):cu P F (At U (VR F U)) U (fp t v i) (fp t v' i'):=by
 unfold fp;refine(uq hi).bM fun x hx=>?_;obtain⟨k,n⟩:=x;dsimp only
 have rest:∀ {b b':Option cX} (len:Nat) (e:a7),VR F U (.pointer b) (.pointer b')->cu P F (At U (VR F U)) U
   (do
     let tiny:=len<=1&&(match <-ji t with|.array ..=>true|_=>false)
     match b with
     |some a=>
      if 0<=n/\n<len then pure (.pointer (some (a.add (n.toNat*(<-sizeOf e)))))
      else if tiny then rD (.noEntry "op/indexAddr.an index out of range at an array of length 0 or 1 (ledger 616)")
      else boundsPanic k n len .index
     |none=>boundsPanic k n 0 .index)
   (do
     let tiny:=len<=1&&(match <-ji t with|.array ..=>true|_=>false)
     match b' with
     |some a=>
      if 0<=n/\n<len then pure (.pointer (some (a.add (n.toNat*(<-sizeOf e)))))
      else if tiny then rD (.noEntry "op/indexAddr.an index out of range at an array of length 0 or 1 (ledger 616)")
      else boundsPanic k n len .index
     |none=>boundsPanic k n 0 .index):=by
  intro b b' len e hb;refine dv.bM fun ds _=>?_;cases hb with
  |Dl=>exact l6
  |ptr ha=>
   dsimp only;split
   .exact ic.bM fun m _=>.dB (.ptr (ha.add _))
   generalize (decide (len<=1)&&_:Bool)=tiny;cases tiny
   .exact l6
   exact cI sN
 refine dv.bM fun ds Mx=>?_;cases ds with
 |array len e=>exact(oF h).dO fun a a' ha=>rest len e (.ptr ha)
 |slice e=>
  cases h<;>first|exact bt|skip
  .rename_i l c;exact rest l e .Dl
  exact rest _ e (.ptr ‹_›)
 |_=>cases h<;>exact bt
theorem N6{t:a7}{v v' i i':aj}(h:VR F U v v')(hi:VR F U i i'):cu P F (At U (VR F U)) U (ni t v i) (ni t v' i'):=by
 unfold ni;refine(uq hi).bM fun x hx=>?_;obtain⟨k,n⟩:=x;dsimp only;refine dv.bM fun ds Mx=>?_;cases ds with
 |string=>
  cases h<;>first|exact bt|skip
  dsimp only;generalize (if 0<=n then _ else _:Option UInt8)=o;cases o with
  |none=>exact l6
  |some b=>exact .dB (.int _ _)
 |array len e=>
  cases h<;>first|exact bt|skip
  rename_i hs hv;dsimp only;split
  .exact ic.bM fun m _=>oa ⟨hs,hv⟩ _
  exact l6
 |_=>cases h<;>exact bt
theorem Jq{v v':aj}(h:VR F U v v')(i:Nat):cu P F (At U (VR F U)) U (Instr.extract v i) (Instr.extract v' i):=by
 unfold Instr.extract;cases h<;>first|exact bt|skip
 rename_i hs hv;have ha:iZ F U _ _:=⟨hs,hv⟩
 dsimp only;split
 .rename_i x hx;obtain⟨y,hy,hvy⟩:=ha.get hx;rw[hy];exact .dB hvy
 exact bt
theorem N_{e:a7}(h:oP P e=true):cu P F (VR F) U (Instr.alloc e true (.tuple #[])) (Instr.alloc e true (.tuple #[])):=by
 unfold Instr.alloc;exact(lN h).dO fun v v' hv=>cu.bind (Cw hv) fun U' a a' _ ha=>.pure (.ptr ha)
theorem T2{e:a7}{v v':aj}(h:VR F U v v'):cu P F (VR F) U (Instr.box e v) (Instr.box e v'):=by
 unfold Instr.box;exact cu.bind (Cw h) fun U' a a' _ ha=>.pure (.ptr ha)
end
section
variable{P:aN}{F:Nat->Bool}{α β γ Z:Type}{A:Rn->α->β->Prop}{A':Rn->γ->Z->Prop}{U:Rn}
inductive PL(F:Nat->Bool)(U:Rn):List (Nat × aj)->List (Nat × aj)->Prop
 |nil:PL F U [] []
 |cons {i:Nat} {x y:aj} {l m:List (Nat × aj)}:VR F U x y->PL F U l m->PL F U ((i,x)::l) ((i,y)::m)
theorem ML{off:Nat}{l m:List aj}(h:Tn F U l m):∀(j:Nat) {cs cs':Array aj},iZ F U cs cs'->
  iZ F U ((l.zipIdx j).foldl (fun cs (c,j)=>cs.setIfInBounds (off+j) c) cs) ((m.zipIdx j).foldl (fun cs (c,j)=>cs.setIfInBounds (off+j) c) cs'):=by
 induction h with
 |nil=>intro j cs cs' hc;exact hc
 |cons hx _ ih=>intro j cs cs' hc;simp only[List.zipIdx_cons,List.foldl_cons];exact ih (j+1) (hc.set hx _)
theorem Pb{place:Nat->Option (Nat × Nat)}{l m:List (Nat × aj)}(h:PL F U l m):∀ {cs cs':Array aj},iZ F U cs cs'->
  (Instr.fill place cs l=none/\Instr.fill place cs' m=none)\/∃x y,Instr.fill place cs l=some x/\Instr.fill place cs' m=some y/\iZ F U x y:=by
 induction h with
 |nil=>intro cs cs' hc;exact .inr ⟨cs,cs',rfl,rfl,hc⟩
 |@cons i x y l m hx _ ih=>
  intro cs cs' hc;simp only[Instr.fill];cases place i with
  |none=>exact .inl ⟨rfl,rfl⟩
  |some p=>
   obtain⟨off,size⟩:=p;simp only[<-hx.cells.size,<-hc.size];split
   .exact .inl ⟨rfl,rfl⟩
   have:=ML (off:=off) hx.cells.list 0 hc;refine ih ?_;simpa only[<-Array.foldl_toList,Array.toList_zipIdx] using this
theorem Eo{ι κ:Type}{f:ι->iT κ}(hf:∀a,cu P F (Same U fun _=>True) U (f a) (f a))(l:Array ι):cu P F (Same U fun _=>True) U (l.mapM f) (l.mapM f):=by
 rw[pH]
 have:∀l:List ι,cu P F (Same U fun _=>True) U (l.mapM f) (l.mapM f):=by
  intro l;rw[<-List.mapM'_eq_mapM]
  induction l with
  |nil=>exact cY
  |cons a l ih=>exact(hf a).bM fun _ _=>ih.bM fun _ _=>cY
 exact(this l.toList).bM fun _ _=>cY
theorem N7{t:a7}(ht:oP P t=true){l m:Array (Nat × aj)}(h:PL F U l.toList m.toList):cu P F (At U (VR F U)) U (Instr.build t l) (Instr.build t m):=by
 unfold Instr.build;refine(lN ht).dO fun z z' hz=>?_;dsimp only;refine dv.bM fun ds _=>?_;cases ds with
 |struct fs=>
  refine(Eo (fun f=>ic.bM fun n _=>cY) fs).bM fun places _=>?_;rcases Pb (place:=(places[·]?)) h hz.cells with⟨h1,h2⟩|⟨x,y,h1,h2,h3⟩
  .simp only[h1];exact bt
  simp only[h1,h2];exact .dB h3.agg
 |array n e=>
  refine ic.bM fun n _=>?_;rcases Pb (place:=fun i=>some (i*n,n)) h hz.cells with⟨h1,h2⟩|⟨x,y,h1,h2,h3⟩
  .simp only[h1];exact bt
  simp only[h1,h2];exact .dB h3.agg
 |_=>exact bt
def zO(P:aN)(t:a7):Bool:=match P.underlying t with|some (.slice e)=>oP P e|_=>true
theorem VU:VR F U (default:aj) (default:aj):=Af (by rfl)
theorem iZ.ajV{a a':Array aj}(h:iZ F U a a')(i:Nat):VR F U a[i]! a'[i]!:=by
 rw[Array.getElem!_eq_getD,Array.getElem!_eq_getD];exact h.getD VU i
theorem I7{a a':Array aj}(h:iZ F U a a')(n:Nat):iZ F U ((Array.range n).map (a[· % a.size]!)) ((Array.range n).map (a'[· % a'.size]!)):=by
 refine iZ.map fun i _=>?_;rw[<-h.size];exact h.ajV _
theorem Dk{t:a7}(ht:zO P t=true){n:Nat}{l m:Array (Nat × aj)}(h:PL F U l.toList m.toList):cu P F (VR F) U (Instr.buildSlice t n l) (Instr.buildSlice t n m):=by
 unfold Instr.buildSlice;refine dv.bM fun ds Mx=>?_;cases ds<;>first|exact bt|skip
 rename_i e;simp only[zO,Mx] at ht;refine ic.bM fun size _=>?_;dsimp only;split
 .exact .dead ((fK sN).bind _)
 have rest:∀ {z z':Array aj},iZ F U z z'->cu P F (VR F) U
   (do
     let some cells:=Instr.fill (fun i=>some (i*size,size)) ((Array.range (n*size)).map (z[· % z.size]!)) l.toList|stuck "buildSlice: a part of the wrong size"
     pure (.slice (some (<-newRow e cells)) n n))
   (do
     let some cells:=Instr.fill (fun i=>some (i*size,size)) ((Array.range (n*size)).map (z'[· % z'.size]!)) m.toList|stuck "buildSlice: a part of the wrong size"
     pure (.slice (some (<-newRow e cells)) n n)):=by
  intro z z' hz;rcases Pb (place:=fun i=>some (i*size,size)) h (I7 hz (n*size)) with⟨h1,h2⟩|⟨x,y,h1,h2,h3⟩
  .simp only[h1];exact bt
  simp only[h1,h2];exact cu.bind (vN h3) fun U' a a' _ ha=>.pure (.slice _ _ ha)
 split
 .exact rest .nil
 exact(lN ht).dO fun v v' hv=>rest hv.cells
def Uu(P:aN)(ts:Array a7):Bool:=match ts[0]? with|some t=>(match P.underlying t with|some (.slice _)|some (.array ..)|some .string=>true|_=>false)|none=>true
theorem T1{ts:Array a7}(ht:Uu P ts=true){t:a7}{l m:Array aj}(h:iZ F U l m):cu P F (At U (VR F U)) U (Builtin.len_ ts t l) (Builtin.len_ ts t m):=by
 unfold Builtin.len_;unfold Uu at ht;cases hx:l[0]? with
 |none=>cases ts[0]?<;>exact bt
 |some x=>
  obtain⟨y,hy,hv⟩:=h.get hx;rw[hy];cases h0:ts[0]? with
  |none=>exact bt
  |some t0=>
   rw[h0] at ht;dsimp only at ht ⊢;refine dv.bM fun ds Mx=>?_;rw[Mx] at ht;cases ds<;>first|(cases ht;done)|skip
   all_goals (cases hv<;>first|exact bt|exact .dB (VR.int _ _))
theorem Ro{x x' y y':aj}(hx:VR F U x x')(hy:VR F U y y'):cu P F (At U (VR F U)) U (Builtin.max2 x y) (Builtin.max2 x' y'):=by
 cases hx<;>cases hy<;>first
  |exact bt
  |exact cI sN
  |exact .dB (.int _ _)
  |exact .dB (.string _)
theorem Rm{x x' y y':aj}(hx:VR F U x x')(hy:VR F U y y'):cu P F (At U (VR F U)) U (Builtin.min2 x y) (Builtin.min2 x' y'):=by
 cases hx<;>cases hy<;>first
  |exact bt
  |exact cI sN
  |exact .dB (.int _ _)
  |exact .dB (.string _)
theorem CA{f:aj->aj->iT aj}(hf:∀ {x x' y y'},VR F U x x'->VR F U y y'->cu P F (At U (VR F U)) U (f x y) (f x' y')){l m:List aj}(h:Tn F U l m) :
  ∀ {x x':aj},VR F U x x'->cu P F (At U (VR F U)) U (l.foldlM f x) (m.foldlM f x'):=by
 induction h with
 |nil=>intro x x' hx;exact .dB hx
 |cons hy _ ih=>intro x x' hx;simp only[List.foldlM_cons];exact(hf hx hy).dO fun z z' hz=>ih hz
theorem TY{ts:Array a7}{t:a7}{l m:Array aj}(h:iZ F U l m):cu P F (At U (VR F U)) U (Cj ts t l) (Cj ts t m):=by
 unfold Cj;have hl:=h.list;generalize l.toList=l' at hl ⊢;generalize m.toList=m' at hl ⊢;cases hl with
 |nil=>exact bt
 |cons hx hl=>exact CA Ro hl hx
theorem TX{ts:Array a7}{t:a7}{l m:Array aj}(h:iZ F U l m):cu P F (At U (VR F U)) U (Ci ts t l) (Ci ts t m):=by
 unfold Ci;have hl:=h.list;generalize l.toList=l' at hl ⊢;generalize m.toList=m' at hl ⊢;cases hl with
 |nil=>exact bt
 |cons hx hl=>exact CA Rm hl hx
end
section
variable{P:aN}{F:Nat->Bool}{α β γ Z:Type}{A:Rn->α->β->Prop}{A':Rn->γ->Z->Prop}{U:Rn}
def oC(P:aN)(s:iT α):Prop:=∀w es,(∃a w' es',s.runT P w es=(.ok a w',es'))\/∃h w' es',s.runT P w es=(.halt h w',es')/\Gl h
theorem oC.FE{s:iT α}{f:α->iT γ}(h:oC P s)(hf:∀a,rr P (f a)):rr P (s >>= f):=fun w es=>by
 show ∃h w' es',(s.bind f).runT P w es=_/\_;rw[Hx];rcases h w es with⟨a,w',es',h1⟩|⟨e,w',es',h1,h2⟩
 .rw[h1];exact hf a w' es'
 rw[h1];exact⟨e,w',es',rfl,h2⟩
theorem oC.bind{s:iT α}{f:α->iT γ}(h:oC P s)(hf:∀a,oC P (f a)):oC P (s >>= f):=fun w es=>by
 show(∃a w' es',(s.bind f).runT P w es=_)\/∃h w' es',(s.bind f).runT P w es=_/\_;rw[Hx];rcases h w es with⟨a,w',es',h1⟩|⟨e,w',es',h1,h2⟩
 .rw[h1];exact hf a w' es'
 rw[h1];exact .inr ⟨e,w',es',rfl,h2⟩
theorem nA{a:α}:oC P (eZ a:iT α):=fun w es=>.inl ⟨a,w,es,rfl⟩
theorem Kr{r:Nat}:oC P (shape r):=fun w es=>.inl ⟨_,w,es,rfl⟩
theorem Hk{a:cX}:oC P (frozen a):=fun w es=>.inl ⟨_,w,es,rfl⟩
theorem Aw{a:cX}{n:Nat}:oC P (Builtin.holdsCells a n):=by
 unfold Builtin.holdsCells;refine Kr.bind fun s=>?_;cases s<;>exact nA
theorem Dw{size pJ n:Nat}{b:Option cX}{x:aj}:oC P (ql size pJ n b x):=by
 unfold ql
 have rest:∀there:Bool,oC P (if (!there)=true then(pure true:iT Bool) else match x with
   |.slice (some c) _ _=>do pure (!(<-Builtin.holdsCells c (n*size))||b.any (·.block==c.block))
   |_=>pure false):=by
  intro there;split
  .exact nA
  split
  .exact Aw.bind fun _=>nA
  exact nA
 cases b with
 |none=>exact nA.bind rest
 |some a=>exact Aw.bind fun _=>Hk.bind fun _=>nA.bind rest
theorem N5{x x':aj}(h:VR F U x x'):cu P F (Same U fun _=>True) U (DL x) (DL x'):=by
 cases h<;>first|exact bt|exact cY
theorem pI{x x':aj}(h:VR F U x x')(size n:Nat):cu P F (At U (iZ F U)) U (eM size n x) (eM size n x'):=by
 cases h<;>first|exact bt|exact .dB .nil|exact vO ‹_› _|exact .dB (iZ.map fun _ _=>.int _ _)
theorem KW{z z':Array aj}(h:iZ F U z z')(n:Nat):iZ F U (f_ z n) (f_ z' n):=by
 unfold f_;rw[<-h.size];have:=I7 h (n*z.size);rw[<-h.size] at this;exact this
theorem Jr{n:Nat}:cu P F (At U fun _ _=>True) U (askRoom n) (askRoom n):=by
 unfold askRoom;split
 .exact .noRoom (.dB trivial)
 exact .dB trivial
def okZ(P:aN)(t?:Option a7):Bool:=match t? with|some t=>(match P.underlying t with|some (.int _)=>false|_=>true)|none=>true
def Uv(P:aN)(ts:Array a7):Bool:=
 (match ts[0]? with|some t=>zO P t|none=>true)&&okZ P ts[1]?
theorem N3{t?:Option a7}(ht:okZ P t?=true){J J':Bool->iT aj}(h:cu P F (VR F) U (J false) (J' false)) :
  cu P F (VR F) U (match (generalizing:=false) t? with|some t=>ji t >>= fun d=>(eZ (match d with|.int _=>true|_=>false):iT Bool) >>= J|none=>(eZ false:iT Bool) >>= J)
   (match (generalizing:=false) t? with|some t=>ji t >>= fun d=>(eZ (match d with|.int _=>true|_=>false):iT Bool) >>= J'|none=>(eZ false:iT Bool) >>= J'):=by
 cases t? with
 |none=>exact h
 |some t1=>
  refine dv.bM fun d1 hd1=>?_;simp only[okZ,hd1] at ht;cases d1<;>first|(cases ht;done)|exact h
theorem LD{ts:Array a7}(ht:Uv P ts=true){t:a7}{l m:Array aj}(h:iZ F U l m):cu P F (VR F) U (kE ts t l) (kE ts t m):=by
 unfold kE;simp only[Uv,aJ] at ht;obtain⟨J4,sZ⟩:=ht;cases hx:l[0]? with
 |none=>cases ts[0]?<;>exact bt
 |some s=>
  obtain⟨s',hs',hsv⟩:=h.get hx;rw[hs'];cases h0:ts[0]? with
  |none=>exact bt
  |some t0=>
   cases hx1:l[1]? with
   |none=>exact bt
   |some x=>
    obtain⟨x',hx',hxv⟩:=h.get hx1;rw[hx'];rw[h0] at J4;simp only at J4;dsimp only;refine dv.bM fun ds Mx=>?_;cases ds<;>first|exact bt|skip
    rename_i e;simp only[zO,Mx] at J4;dsimp only
    have main:∀ {b b':Option cX} (sl sc:Nat),VR F U (.slice b sl sc) (.slice b' sl sc)->cu P F (VR F) U
      (do
        let size <-sizeOf e
        let zeros <-match ts[1]? with
         |some xType=>do pure ((<-ji xType) matches .int _)
         |none=>pure false
        let n <-if zeros then do
          let l:=IntKind.i64.wrap (<-asInt x)
          if l<0 then eJ (.error "makeslice: len out of range")
          if l*(<-ly e).bytes>2 ^ 48 then
           let made <-AV (.extern "append.ofMake.carriedOut" 2)
           eJ (.error (if made==1 then "makeslice: len out of range" else "growslice: len out of range"))
          pure l.toNat
         else DL x
        let appended:iT (Array aj):=
         if !zeros then eM size n x
         else if n*size=0 then pure #[]
         else do pure (f_ (<-je e).cells n)
        let need:=sl+n
        if need<=sc then
         let new <-appended
         if let some a:=b then storeCells (a.add (sl*size)) new.toList
         pure (.slice b need sc)
        else
         if (need:Int)>IntKind.i64.max/\(zeros\/(<-ly e).bytes=0) then eJ (.error "growslice: len out of range")
         if Builtin.nextslicecap need sc*(<-ly e).bytes>2 ^ 48 then(if zeros then eJ (.error "growslice: len out of range") else do
          if !(<-ql size sl n b x) then mark .noRoom
          rD (.resourceLimit "append: a slice or a string whose bytes no memory bears"))
         let mZ <-AV (.appendCap need sc e)
         askRoom (mZ*(<-ly e).bytes)
         let old <-eM size sl (.slice b sl sc);let new <-appended;let rest:=f_ (<-je e).cells (mZ-need)
         pure (.slice (some (<-newRow e (old++new++rest))) need mZ))
      (do
        let size <-sizeOf e
        let zeros <-match ts[1]? with
         |some xType=>do pure ((<-ji xType) matches .int _)
         |none=>pure false
        let n <-if zeros then do
          let l:=IntKind.i64.wrap (<-asInt x')
          if l<0 then eJ (.error "makeslice: len out of range")
          if l*(<-ly e).bytes>2 ^ 48 then
           let made <-AV (.extern "append.ofMake.carriedOut" 2)
           eJ (.error (if made==1 then "makeslice: len out of range" else "growslice: len out of range"))
          pure l.toNat
         else DL x'
        let appended:iT (Array aj):=
         if !zeros then eM size n x'
         else if n*size=0 then pure #[]
         else do pure (f_ (<-je e).cells n)
        let need:=sl+n
        if need<=sc then
         let new <-appended
         if let some a:=b' then storeCells (a.add (sl*size)) new.toList
         pure (.slice b' need sc)
        else
         if (need:Int)>IntKind.i64.max/\(zeros\/(<-ly e).bytes=0) then eJ (.error "growslice: len out of range")
         if Builtin.nextslicecap need sc*(<-ly e).bytes>2 ^ 48 then(if zeros then eJ (.error "growslice: len out of range") else do
          if !(<-ql size sl n b' x') then mark .noRoom
          rD (.resourceLimit "append: a slice or a string whose bytes no memory bears"))
         let mZ <-AV (.appendCap need sc e)
         askRoom (mZ*(<-ly e).bytes)
         let old <-eM size sl (.slice b' sl sc);let new <-appended;let rest:=f_ (<-je e).cells (mZ-need)
         pure (.slice (some (<-newRow e (old++new++rest))) need mZ)):=by
     intro b b' sl sc hb;refine ic.bM fun size _=>?_;refine N3 sZ ?_;simp only[bG,if_false,false_or,Bool.not_false,if_true];refine(N5 hxv).bM fun n _=>?_;split
     .refine(pI hxv size n).dO fun new ah7 hn=>?_;cases hb with
      |EU=>exact .pure (.EU _ _)
      |slice _ _ ha=>exact(uR (ha.add _) hn.list 0).dO fun _ _ _=>.pure (.slice _ _ ha)
     refine jI.bM fun i _=>?_;split
     .exact .dead ((pY sN sN).bind _)
     refine jI.bM fun i _=>?_;split
     .refine .dead ?_;refine rr.bind (Dw.FE fun a=>?_) _;cases a
      .exact oC.FE (s:=mark .noRoom) (fun w es=>.inl ⟨(),w,_,rfl⟩) fun _=>fK sN
      exact fK sN
     refine vQ.bM fun cap _=>jI.bM fun i _=>Jr.dO fun _ _ _=>?_;refine(pI hb size sl).dO fun old aos ho=>(pI hxv size n).dO fun new ah7 hn=>?_;refine(lN J4).dO fun z z' hz=>?_;exact cu.bind (vN ((ho.append hn).append (KW hz.cells _))) fun U' a a' _ ha=>.pure (.slice _ _ ha)
    cases hsv with
    |EU sl sc=>exact main sl sc (.EU _ _)
    |slice sl sc ha=>exact main sl sc (.slice _ _ ha)
    |_=>exact bt
inductive NR(F:Nat->Bool)(U:Rn):Next->Next->Prop
 |value {v v':aj}:VR F U v v'->NR F U (.value v) (.value v')
 |skip:NR F U .skip .skip
 |enter {f:d_} {l m:Array aj}:F f=true->iZ F U l m->NR F U (.enter f l) (.enter f m)
 |send {ch v:aj} {n:Next}:NR F U (.comm #[{ chan:=ch,send:=some v,zero:=.tuple #[] }] true .send) n
theorem n_{s s':iT aj}(h:cu P F (VR F) U s s'):cu P F (NR F) U (do pure (.value (<-s))) (do pure (.value (<-s'))):=h.bind fun U' v v' _ hv=>.pure (.value hv)
theorem iw{s s':iT aj}(h:cu P F (At U (VR F U)) U s s'):cu P F (NR F) U (do pure (.value (<-s))) (do pure (.value (<-s'))):=h.dO fun v v' hv=>.pure (.value hv)
theorem Cu{s s':iT Unit}(h:cu P F (At U fun _ _=>True) U s s'):cu P F (NR F) U (do s;pure .skip) (do s';pure .skip):=h.dO fun _ _ _=>.pure .skip
def WX(P:aN)(F:Nat->Bool):Prop:=∀f,F f=true->∃fn,P.funcs[f]?=some fn/\fn.body.isSome=true/\(fn.name == "runtime.NumGoroutine")=false
theorem GM(hF:WX P F){f:d_}(hf:F f=true){l m:Array aj}(h:iZ F U l m):cu P F (NR F) U (callFunc f l) (callFunc f m):=by
 obtain⟨fn,h1,h2,h3⟩:=hF f hf;unfold callFunc;refine kG ?_;have h4:fn.body.isNone=false:=by cases hb:fn.body<;>simp_all
 simp only[h1,h3,h4,bG,if_false];exact .pure (.enter hf h)
def Bc(F:Nat->Bool):bI->Bool
 |.tmp _=>true
 |.const v=>Fz v
 |.global _=>false
 |.func f=>F f
def okB(P:aN)(ts:Array a7):Builtin->Bool
 |.append=>Uv P ts
 |.len=>Uu P ts
 |.max|.min=>true
 |_=>false
def isInt:bI->Bool
 |.const (.int _ _)=>true
 |_=>false
def aeu(P:aN)(t:a7):Bool:=P.underlying t matches some (.int _)
def X4(P:aN)(F:Nat->Bool)(op:Op):Bool:=op.operands.all (Bc F)&&match op with
 |.move _|.assign _|.pick ..|.box ..|.load ..|.store ..|.indexAddr ..|.index ..|.extract ..|.send ..=>true
 |.alloc e=>oP P e
 |.build t _=>oP P t
 |.buildSlice t _ _=>zO P t
 |.binOp op t _ y _=>aeu P t&&(ZA op||((op matches .eql | .neq)&&isInt y))
 |.makeFunc (.func f) _ _=>F f
 |.makeMap _ none=>true
 |.fieldAddr s _ f=>JI P s f
 |.lookup t _ _ _=>Ut P t
 |.mapUpdate t _ _ _=>Ow P t
 |.call c=>(match c.callee with|.builtin b=>okB P c.argTypes b|.value _=>true|.invoke ..=>false)
 |_=>false
theorem ku{fr fr':b_}(h:iZ F U fr.tmps fr'.tmps){x:bI}(hx:Bc F x=true):VR F U (fr.eval x) (fr'.eval x):=by
 cases x with
 |tmp t=>exact h.getD uj t
 |const v=>exact Af hx
 |global g=>cases hx
 |func f=>exact .func hx rfl (fun i x y h=>by simp at h) rfl (fun i x y h=>by simp at h)
theorem aaV{fr fr':b_}(h:iZ F U fr.tmps fr'.tmps){l:Array bI}(hl:l.all (Bc F)=true):iZ F U (l.map fr.eval) (l.map fr'.eval):=
 iZ.map fun x hx=>ku h (kn.1 hl x hx)
theorem Ou{fr fr':b_}(h:iZ F U fr.tmps fr'.tmps):∀ {l:List (Nat × bI)},(l.all fun p=>Bc F p.2)=true->
  PL F U (l.map fun(i,x)=>(i,fr.eval x)) (l.map fun(i,x)=>(i,fr'.eval x))
 |[],_=>.nil
 |(i,x)::l,hl=>by
  simp only[dX,aJ] at hl;exact .cons (ku h hl.1) (Ou h hl.2)
theorem Lz(hF:WX P F)(R:Wn P U){fr fr':b_}(h:iZ F U fr.tmps fr'.tmps){o:Oper}(ho:X4 P F o.op=true):cu P F (NR F) U (bY fr.eval o) (bY fr'.eval o):=by
 unfold X4 at ho;rw[aJ] at ho;obtain⟨h1,h2⟩:=ho;unfold bY;obtain⟨dst,op,type,pos,after,guard⟩:=o;dsimp only at h1 h2 ⊢;cases op<;>first|(cases h2;done)|skip
 all_goals simp only[Op.operands,List.all_toArray,dX,List.all_nil,Bool.and_true,aJ] at h1
 case move x=>exact .pure (.value (ku h h1))
 case assign x=>exact .pure (.value (ku h h1))
 case pick c a b=>
  refine cu.bM (C:=fun _=>True) (s:=asBool (fr.eval c)) (s':=asBool (fr'.eval c)) ?_ fun t _=>?_
  .have hc:=ku h h1.1;revert hc;generalize fr.eval c=v;generalize fr'.eval c=v';intro hc;cases hc<;>first|exact bt|exact cY
  cases t
  .exact cu.pure (NR.value (ku h h1.2.2))
  exact cu.pure (NR.value (ku h h1.2.1))
 case alloc e=>exact n_ (N_ h2)
 case box e x=>exact n_ (T2 (ku h h1))
 case build t ps=>
  refine iw (N7 h2 ?_);simp only[wQ];exact Ou h (by simpa [List.all_map,Function.comp_def] using h1)
 case buildSlice t n ps=>
  refine n_ (Dk h2 ?_);simp only[wQ];exact Ou h (by simpa [List.all_map,Function.comp_def] using h1)
 case load t a=>exact iw (Lu (ku h h1))
 case store t a v=>exact Cu (Jk (ku h h1.1) (ku h h1.2))
 case binOp op t x y yt=>
  simp only[aJ,Bool.or_eq_true] at h2;have hx:=ku h h1.1;have hy:=ku h h1.2
  have ht:∃k,P.underlying t=some (.int k):=by
   have:=h2.1;unfold aeu at this;split at this
   .exact⟨_,‹_›⟩
   cases this
  obtain⟨k,ht⟩:=ht;refine n_ ?_;rcases h2.2 with hop|⟨hop,hint⟩
  .have e:∀a b,eqGuard op t x y a b=eZ ():=fun a b=>by cases op<;>first|rfl|cases hop
   rw[e,e];exact N8 R ht hop hx hy
  have hyi:∃k n,y=.const (.int k n):=by
   unfold isInt at hint;split at hint
   .exact⟨_,_,rfl⟩
   cases hint
  obtain⟨ky,ny,rfl⟩:=hyi;have hy1:fr.eval (.const (.int ky ny))=.int ky ny:=rfl;have hy2:fr'.eval (.const (.int ky ny))=.int ky ny:=rfl;rw[hy1,hy2] at *
  have e:∀a,eqGuard op t x (.const (.int ky ny)) a (.int ky ny)=eZ ():=fun a=>by
   have abf:op=.eql\/op=.neq:=by cases op<;>first|exact .inl rfl|exact .inr rfl|cases hop
   rcases abf with rfl|rfl<;>cases a<;>rfl
  rw[e,e];show cu P F (VR F) U (binOp op t (fr.eval x) (.int ky ny)) (binOp op t (fr'.eval x) (.int ky ny));generalize fr.eval x=v at hx ⊢;generalize fr'.eval x=v' at hx ⊢;have hpl:pO P 1 t=true:=by simp only[pO,ht]
  have heq:=qa R 1 Op.maxDepth t hpl v v' _ _ hx (.int (F:=F) (U:=U) ky ny);have abf:op=.eql\/op=.neq:=by cases op<;>first|exact .inl rfl|exact .inr rfl|cases hop
  rcases abf with rfl|rfl
  .cases hx<;>first
    |exact vP
    |exact heq.bM fun b _=>.pure (.bool _)
  cases hx<;>first
   |exact vP
   |exact heq.bM fun b _=>.pure (.bool _)
 case makeFunc fn fs cs=>
  cases fn<;>first|(cases h2;done)|skip
  rename_i f;simp only[Array.all_append,aJ] at h1;have e1:=aaV h h1.1;have e2:=aaV h h1.2;exact .pure (NR.value (.func h2 e1.size e1.at_ e2.size e2.at_))
 case makeMap t r=>
  cases r<;>first|(cases h2;done)|skip
  exact n_ Jm
 case fieldAddr s x f=>exact iw (Jp h2 (ku h h1))
 case indexAddr t x i=>exact iw (Jo (ku h h1.1) (ku h h1.2))
 case index t x i=>exact iw (N6 (ku h h1.1) (ku h h1.2))
 case lookup t x i ok=>exact iw (Lt R h2 (ku h h1.1) (ku h h1.2) ok)
 case mapUpdate t m k v=>exact Cu (Em R h2 (ku h h1.1) (ku h h1.2.1) (ku h h1.2.2))
 case send ch x=>exact cu.pure NR.send
 case extract x i=>exact iw (Jq (ku h h1) i)
 case call c=>
  obtain⟨callee,args,ats⟩:=c;simp only[Call.operands,Array.all_append,aJ] at h1;have ha:=aaV h h1.2;dsimp only at h2;cases callee<;>first|(cases h2;done)|skip
  case builtin b=>
   cases b<;>first|(cases h2;done)|skip
   .exact n_ (LD h2 ha)
   .exact iw (T1 h2 ha)
   .exact iw (TY ha)
   exact iw (TX ha)
  case value f=>
   have hf:=ku h (x:=f) (by simpa using h1.1);unfold resolve;dsimp only;revert hf;generalize fr.eval f=v;generalize fr'.eval f=v';intro hf;cases hf<;>first|exact bt|exact gQ (e:=.nilDeref)|skip
   rename_i f fs fs' cs cs' hFf h3 h4 h5 h6;exact GM hF hFf (((iZ.mk h3 h4).append ha).append ⟨h5,h6⟩)
end
def Qf(P:aN)(F:Nat->Bool)(o:Oper):Bool:=X4 P F o.op
def iL(P:aN)(F:Nat->Bool):Code->Bool
 |.skip|.exit _|.label _|.ret=>true
 |.region _ aP _=>aP.all (Qf P F)
 |.seq a b=>iL P F a&&iL P F b
 |.cond c a b=>Bc F c&&iL P F a&&iL P F b
 |.block _ c|.loop c=>iL P F c
 |_=>false
def iW(P:aN)(F:Nat->Bool):pW->Bool
 |.code c|.inLoop c=>iL P F c
 |.inBlock _=>true
 |.inRegion aP _=>aP.all (Qf P F)
 |_=>false
structure vn(P:aN)(F:Nat->Bool):Prop where
 text:∀f,F f=true->∃fn c,P.funcs[f]?=some fn/\fn.body=some c/\iL P F c=true/\(fn.name == "runtime.NumGoroutine")=false
def vn.body{P:aN}{F:Nat->Bool}(h:vn P F):WX P F:=fun f hf=>by
 obtain⟨fn,c,h1,h2,_,h3⟩:=h.text f hf;exact⟨fn,h1,by rw[h2];rfl,h3⟩
def jz(fn:d_)(tmps:Array aj)(todo:List pW)(mode:FrameMode)(kd:kh):Frame:={ fn,tmps,todo,defers:=[],mode,kind:=kd,roundOf:=none }
abbrev Fr(fn:d_)(tmps:Array aj)(todo:List pW)(mode:FrameMode):Frame:=jz fn tmps todo mode .normal
inductive FR(P:aN)(F:Nat->Bool)(U:Rn)(k:List pW)(kd:kh):b_->b_->Prop
 |run {fn:d_} {tmps bH:Array aj} {todo:List pW}:iZ F U tmps bH->todo.all (iW P F)=true->FR P F U k kd (Fr fn tmps todo .run) (jz fn bH (todo++k) .run kd)
 |ret {fn:d_} {tmps bH:Array aj} {todo PZ:List pW}:iZ F U tmps bH->FR P F U k kd (Fr fn tmps todo .returning) (jz fn bH PZ .returning kd)
def FR.mono{P:aN}{F:Nat->Bool}{U U':Rn}{k:List pW}{kd:kh}{fr fr':b_}(h:FR P F U k kd fr fr')(hl:Rn.le U U'):FR P F U' k kd fr fr':=by
 cases h with
 |run h1 h2=>exact .run (h1.mono hl) h2
 |ret h1=>exact .ret (h1.mono hl)
def FR.defers{P:aN}{F:Nat->Bool}{U:Rn}{k:List pW}{kd:kh}{fr fr':b_}(h:FR P F U k kd fr fr'):fr.defers=[]:=by cases h<;>rfl
def FR.kinds{P:aN}{F:Nat->Bool}{U:Rn}{k:List pW}{kd:kh}{fr fr':b_}(h:FR P F U k kd fr fr'):fr.kind=.normal/\fr'.kind=kd:=by cases h<;>exact⟨rfl,rfl⟩
inductive SR(P:aN)(F:Nat->Bool)(U:Rn)(k:List pW)(kd:kh)(cs:List b_):b_->List b_->b_->List b_->Prop
 |base {fr fr':b_}:FR P F U k kd fr fr'->P.inits.idxOf? fr.fn=none->SR P F U k kd cs fr [] fr' cs
 |up {fr fr' c c':b_} {r r':List b_}:FR P F U [] .normal fr fr'->c.todo≠[]->c.mode=.run->SR P F U k kd cs c r c' r'->SR P F U k kd cs fr (c::r) fr' (c'::r')
def SR.mono{P:aN}{F:Nat->Bool}{U U':Rn}{k:List pW}{kd:kh}{cs:List b_}{fr fr':b_}{l l':List b_}(h:SR P F U k kd cs fr l fr' l')(hl:Rn.le U U'):SR P F U' k kd cs fr l fr' l':=by
 induction h with
 |base h1 h2=>exact .base (h1.mono hl) h2
 |up h1 h2 h3 _ ih=>exact .up (h1.mono hl) h2 h3 ih
def SR.defers{P:aN}{F:Nat->Bool}{U:Rn}{k:List pW}{kd:kh}{cs:List b_}{fr fr':b_}{l l':List b_}(h:SR P F U k kd cs fr l fr' l'):fr.defers=[]/\∀c∈l,c.defers=[]:=by
 induction h with
 |base h1 h2=>exact⟨h1.defers,sN⟩
 |up h1 h2 h3 _ ih=>
  refine⟨h1.defers,fun c hc=>?_⟩;rcases cj.1 hc with rfl|hc
  .exact ih.1
  exact ih.2 c hc
def PI(g:aH):Prop:=g.dying≠none\/g.status≠.running\/∃chain,g.frame.mode=.panicking chain/\g.frame.defers=[]/\∀c∈g.callers,c.defers=[]
section
variable{P:aN}{F:Nat->Bool}{G':Nat}{B:Nat->Prop}{U:Rn}{k:List pW}{kd:kh}{cs:List b_}{lw w:ak}{main:Bool}
theorem raise_mode(fr:b_)(c:List PanicEntry):∃ch,(fr.raise c).mode=.panicking ch/\(fr.raise c).defers=fr.defers:=by
 unfold Frame.raise;cases fr.mode<;>exact⟨_,rfl,rfl⟩
theorem Ra{g:aH}(h:PI g)(hd:g.dying=none)(hr:g.status=.running):(∃o w1 es,fE P true g lw=.ended o w1 es)\/∃g1 w1 es,fE P true g lw=.go g1 w1 es/\PI g1:=by
 rcases h with h|h|⟨chain,h1,h2,h3⟩
 .exact absurd hd h
 .exact absurd hr h
 obtain⟨fr,cs,st,dy,off⟩:=g;obtain⟨fn,tmps,todo,defers,mode,kind,roundOf⟩:=fr;dsimp only at hd hr h1 h2 h3;subst hd;subst h1;subst h2;have e:fE P true ⟨⟨fn,tmps,todo,[],.panicking chain,kind,roundOf⟩,cs,st,none,off⟩ lw=mg P true ⟨fn,tmps,todo,[],.panicking chain,kind,roundOf⟩ cs none lw:=by unfold fE;rfl
 rw[e];unfold mg;dsimp only;split
 .exact .inl ⟨_,_,_,rfl⟩
 .cases cs with
  |cons c r=>
   obtain⟨ch,e1,e2⟩:=raise_mode c chain;exact .inr ⟨_,_,_,rfl,.inr (.inr ⟨ch,e1,e2.trans (h3 c sN),fun x hx=>h3 x (by simp[hx])⟩)⟩
  |nil=>
   dsimp only;split
   .exact .inr ⟨_,_,_,rfl,.inr (.inl sN)⟩
   split
   .exact .inr ⟨_,_,_,rfl,.inl sN⟩
   .exact .inl ⟨_,_,_,rfl⟩
   exact .inl ⟨_,_,_,rfl⟩
def I9(P:aN)(F:Nat->Bool)(G':Nat)(B:Nat->Prop)(U:Rn)(k:List pW)(kd:kh)(cs:List b_)(lw w:ak)(s s':GStep):Prop:=
 (∃o kW es,s=.ended o kW es)\/(∃g1 kW es,s=.go g1 kW es/\PI g1)\/
 (∃g1 ch v kW es,s=.comm g1 #[{ chan:=ch,send:=some v,zero:=.tuple #[] }] true .send kW es/\∀(b:Nat) (o:Obj),kW.heap[b]?=some o->o.isChan=false)\/
 ∃He l1 kW es xE Yj w1 evs ρ1,s=.go (G He l1) kW es/\s'=.go (G xE Yj) w1 evs/\SR P F ρ1 k kd cs He l1 xE Yj/\m8 F G' B U lw w ρ1 kW w1 evs
theorem gP(hw:WR F G' B U lw w){He xE:b_}{l1 Yj:List b_}(h:SR P F U k kd cs He l1 xE Yj){s s':GStep}(e:s=.go (G He l1) lw #[])(e':s'=.go (G xE Yj) w #[]):I9 P F G' B U k kd cs lw w s s':=
 .inr (.inr (.inr ⟨_,_,_,_,_,_,_,_,U,e,e',h,.refl hw⟩))
theorem m8.seen{U':Rn}{eL w':ak}{es:Array gO}(h:m8 F G' B U lw w U' eL w' es)(fn:d_):m8 F G' B U lw w U' eL w' (seen P fn es++#[]):=
 h.more fun e he=>h.evs e (mem_seen (by simpa using he))
theorem SR.set{fr fr' He xE:b_}{l l':List b_}(h:SR P F U k kd cs fr l fr' l')(hfn:He.fn=fr.fn)(h0:l=[]->FR P F U k kd fr fr'->FR P F U k kd He xE)(h1:l≠[]->FR P F U [] .normal fr fr'->FR P F U [] .normal He xE):SR P F U k kd cs He l xE l':=by
 cases h with
 |base h h'=>exact .base (h0 rfl h) (hfn▸h')
 |up h a b r=>exact .up (h1 sN h) a b r
theorem l7{x:pW}{t:List pW}(h:(x::t).all (iW P F)=true):iW P F x=true/\t.all (iW P F)=true:=by simpa using h
theorem iP{x:pW}{t:List pW}(h:iW P F x=true)(h':t.all (iW P F)=true):(x::t).all (iW P F)=true:=by simp[h];simpa using h'
theorem yP{id:Nat}{k:List pW}:∀ {t t':List pW},exitTo id t=some t'->exitTo id (t++k)=some (t'++k)
 |[],t',h=>by cases h
 |x::t,t',h=>by
  cases x<;>simp only[gY,exitTo] at h ⊢<;>first|exact yP h|skip
  split at h
  .rename_i hh;rw[if_pos hh];cases h;rfl
  rename_i hh;rw[if_neg hh];exact yP h
theorem yN{id:Nat}:∀ {t t':List pW},t.all (iW P F)=true->exitTo id t=some t'->t'.all (iW P F)=true
 |[],t',ht,h=>by cases h
 |x::t,t',ht,h=>by
  have ht':=(l7 ht).2;cases x<;>simp only[exitTo] at h<;>first|exact yN ht' h|skip
  split at h
  .cases h;exact ht'
  exact yN ht' h
theorem D6{fn:d_}{tmps bH:Array aj}{aP:Array Oper}{i:Nat}{rest:List Nat}{t k:List pW}(h:iZ F U tmps bH)(ht:(Item.inRegion aP (i::rest)::t).all (iW P F)=true){v v':aj}(hv:VR F U v v') :
  FR P F U k kd ((Fr fn tmps (.inRegion aP (i::rest)::t) .run).finish v) ((jz fn bH (.inRegion aP (i::rest)::t++k) .run kd).finish v'):=by
 unfold Frame.finish Fr jz;simp only[gY];have Dp:(Item.inRegion aP rest::t).all (iW P F)=true:=iP (l7 ht).1 (l7 ht).2;cases(aP[i]?).bind (·.dst) with
 |none=>exact .run (todo:=.inRegion aP rest::t) h Dp
 |some d=>exact .run (todo:=.inRegion aP rest::t) (h.set hv d) Dp
theorem Bz(fr:b_)(v:aj):(fr.finish v).fn=fr.fn:=by
 unfold Frame.finish;split<;>rfl
end
section
variable{P:aN}{F:Nat->Bool}{B:Nat->Prop}{U:Rn}{k:List pW}{kd:kh}{cs:List b_}{lw w:ak}{main:Bool}
theorem WR.rok(h:WR F P.globals.size B U lw w):Wn P U:=⟨h.inj,h.low⟩
theorem VC(hF:vn P F){f:d_}(hf:F f=true){l m:Array aj}(h:iZ F U l m):FR P F U [] .normal (eG P f l .normal) (eG P f m .normal):=by
 obtain⟨fn,c,h1,h2,h3,_⟩:=hF.text f hf;unfold eG;simp only[h1,dM,Option.getD_some,gW,h2];have:=FR.run (P:=P) (F:=F) (U:=U) (k:=[]) (kd:=.normal) (fn:=f) (todo:=[.code c]) (h.append (iZ.replicate uj (fn.ntmps-l.size))) (by simpa [iW] using h3);rw[h.size] at this;rw[h.size];exact this
theorem opR(hF:vn P F)(hw:WR F P.globals.size B U lw w)(ht:wN lw w)(hG:P.globals.size<=lw.heap.size)(Z_:P.globals.size<=w.heap.size)
  {fn:d_} {tmps bH:Array aj} {aP:Array Oper} {i:Nat} {rest:List Nat} {t t':List pW} {l l':List b_} (hto:(Item.inRegion aP (i::rest)::t).all (iW P F)=true)
  (hT:t'=t++(if l=[] then k else[])) {kk:kh} (hK:kk=if l=[] then kd else .normal) (hE:kd≠.early)
  (h:SR P F U k kd cs (Fr fn tmps (.inRegion aP (i::rest)::t) .run) l (jz fn bH (.inRegion aP (i::rest)::t') .run kk) l') (ha:iZ F U tmps bH) {o:Oper} (ho:aP[i]?=some o) :
  I9 P F P.globals.size B U k kd cs lw w (eC P true (Fr fn tmps (.inRegion aP (i::rest)::t) .run) l none (bY (Fr fn tmps (.inRegion aP (i::rest)::t) .run).eval o) lw)
   (eC P true (jz fn bH (.inRegion aP (i::rest)::t') .run kk) l' none (bY (jz fn bH (.inRegion aP (i::rest)::t') .run kk).eval o) w):=by
 have hok:X4 P F o.op=true:=by
  have:=(l7 hto).1;exact kn.1 this o (fq ho)
 have hs:=Lz hF.body hw.rok (fr:=Fr fn tmps (.inRegion aP (i::rest)::t) .run) (fr':=jz fn bH (.inRegion aP (i::rest)::t') .run kk) ha hok
 have qg:∀ {U':Rn} {v v':aj},Rn.le U U'->VR F U' v v'->SR P F U' k kd cs ((Fr fn tmps (.inRegion aP (i::rest)::t) .run).finish v) l ((jz fn bH (.inRegion aP (i::rest)::t') .run kk).finish v') l':=by
  intro U' v v' hle hv;refine(h.mono hle).set (Bz _ _) (fun hl _=>?_) fun hl _=>?_
  .rw[if_pos hl] at hT hK;subst hT;subst hK;exact D6 (k:=k) (ha.mono hle) hto hv
  rw[if_neg hl] at hT hK;subst hT;subst hK;exact D6 (k:=[]) (ha.mono hle) hto hv
 rcases hs.runT hw ht hG Z_ #[] #[] with⟨a,kW,le,b,w1,evs,ρ1,h1,h2,h3,h4⟩|⟨e,kW,le,h1,h2⟩
 .simp only[fD] at h2
  have YA:(kk == .early)=false:=by
   rw[hK];split
   .exact beq_eq_false_iff_ne.2 hE
   rfl
  unfold eC;simp only[if_true,h1,h2];simp only[jz,YA,bG,if_false];cases h3 with
  |value hv=>
   refine .inr (.inr (.inr ⟨_,_,_,_,_,_,_,_,ρ1,rfl,rfl,qg h4.le hv,?_⟩));exact h4.seen fn
  |skip=>
   refine .inr (.inr (.inr ⟨_,_,_,_,_,_,_,_,ρ1,rfl,rfl,qg h4.le uj,?_⟩));exact h4.seen fn
  |enter hf Z8=>
   refine .inr (.inr (.inr ⟨_,_,_,_,_,_,_,_,ρ1,rfl,rfl,.up (VC hF hf Z8) (by simp[Fr]) rfl (h.mono h4.le),?_⟩));exact h4.seen fn
  |send=>exact .inr (.inr (.inl ⟨_,_,_,_,_,rfl,h4.wr.JL⟩))
 .unfold eC;simp only[if_true,h1];have hd:=h.defers;cases e with
  |panic v=>
   obtain⟨ch,e1,e2⟩:=raise_mode (Fr fn tmps (.inRegion aP (i::rest)::t) .run) [{ v,recovered:=false }];exact .inr (.inl ⟨_,_,_,rfl,.inr (.inr ⟨ch,e1,e2.trans hd.1,hd.2⟩)⟩)
  |stuck s=>exact .inl ⟨_,_,_,rfl⟩
  |unsupported u=>
   cases u<;>first|exact absurd h2 id|exact .inl ⟨_,_,_,rfl⟩
  |_=>exact absurd h2 id
theorem SR.top{fr fr':b_}{l l':List b_}(h:SR P F U k kd cs fr l fr' l'):FR P F U (if l=[] then k else[]) (if l=[] then kd else .normal) fr fr':=by
 cases h with
 |base h _=>simpa using h
 |up h _ _ _=>simpa using h
theorem SR.set'{fr fr' He xE:b_}{l l':List b_}(h:SR P F U k kd cs fr l fr' l')(hfn:He.fn=fr.fn)(h1:FR P F U (if l=[] then k else[]) (if l=[] then kd else .normal) He xE):SR P F U k kd cs He l xE l':=
 h.set hfn (fun hl _=>by simpa [hl] using h1) fun hl _=>by simpa [hl] using h1
theorem TJ{tmps bH:Array aj}(ha:iZ F U tmps bH)(aP:Array Oper):yielded aP bH=yielded aP tmps:=by
 funext j
 unfold yielded;cases(aP[j]?).bind (·.dst) with
 |none=>rfl
 |some d=>
  simp only[gW];cases hx:tmps[d]? with
  |none=>rw[ha.none hx]
  |some x=>
   obtain⟨y,hy,hv⟩:=ha.get hx;rw[hy];cases hv<;>rfl
theorem af6(hF:vn P F)(hw:WR F P.globals.size B U lw w)(ht:wN lw w)(hG:P.globals.size<=lw.heap.size)(Z_:P.globals.size<=w.heap.size)
  {fn:d_} {tmps bH:Array aj} {todo:List pW} {l l':List b_} (h:SR P F U k kd cs (Fr fn tmps todo .run) l (jz fn bH (todo++if l=[] then k else[]) .run (if l=[] then kd else .normal)) l') (hE:kd≠.early)
  (ha:iZ F U tmps bH) (hok:todo.all (iW P F)=true) (hk:l=[]->todo=[]->k=[]) :
  I9 P F P.globals.size B U k kd cs lw w (cF P true true (Fr fn tmps todo .run) l none lw) (cF P main true (jz fn bH (todo++if l=[] then k else[]) .run (if l=[] then kd else .normal)) l' none w):=by
 have rA:todo=[]->(if l=[] then k else[])=[]:=fun e=>by
  split
  .rename_i hl;exact hk hl e
  rfl
 generalize s5:(if l=[] then k else[])=kk at h rA ⊢;generalize Ds:(if l=[] then kd else CallKind.normal)=KN at h ⊢;have Di:∀t:List pW,t.all (iW P F)=true->SR P F U k kd cs (Fr fn tmps t .run) l (jz fn bH (t++kk) .run KN) l':=fun t hto=>h.set' rfl (by rw[s5,Ds];exact .run ha hto);have adO:∀t t':List pW,SR P F U k kd cs (Fr fn tmps t .returning) l (jz fn bH t' .returning KN) l':=fun t t'=>h.set' rfl (by rw[Ds];exact .ret ha);cases todo with
 |nil=>
  rw[rA rfl] at h ⊢;exact gP hw (adO [] []) rfl rfl
 |cons x t=>
  obtain⟨hx,J4⟩:=l7 hok;cases x with
  |inBlock id=>exact gP hw (Di t J4) rfl rfl
  |inLoop c=>exact gP hw (Di (.code c::.inLoop c::t) (iP hx (iP hx J4))) rfl rfl
  |inRegion aP todo=>
   cases todo with
   |nil=>exact gP hw (Di t J4) rfl rfl
   |cons i rest=>
    have hy:=TJ ha aP
    by_cases ZE:((aP[i]?).map (Region.wanted · (yielded aP tmps))).getD false=true
    .have e1:cF P true true (Fr fn tmps (.inRegion aP (i::rest)::t) .run) l none lw=fB P true (Fr fn tmps (.inRegion aP (i::rest)::t) .run) l none lw:=if_pos ZE
     have e2:cF P main true (jz fn bH (.inRegion aP (i::rest)::t++kk) .run KN) l' none w=fB P true (jz fn bH (.inRegion aP (i::rest)::(t++kk)) .run KN) l' none w:=by
      rw[<-hy] at ZE;exact if_pos ZE
     rw[e1,e2];cases ho:aP[i]? with
     |none=>rw[ho] at ZE;cases ZE
     |some o=>
      have e3:fB P true (Fr fn tmps (.inRegion aP (i::rest)::t) .run) l none lw=eC P true (Fr fn tmps (.inRegion aP (i::rest)::t) .run) l none (bY (Fr fn tmps (.inRegion aP (i::rest)::t) .run).eval o) lw:=by
       unfold fB;have:(Fr fn tmps (.inRegion aP (i::rest)::t) .run).oper?=some o:=ho;rw[this];rfl
      have e4:fB P true (jz fn bH (.inRegion aP (i::rest)::(t++kk)) .run KN) l' none w=eC P true (jz fn bH (.inRegion aP (i::rest)::(t++kk)) .run KN) l' none (bY (jz fn bH (.inRegion aP (i::rest)::(t++kk)) .run KN).eval o) w:=by
       unfold fB;have:(jz fn bH (.inRegion aP (i::rest)::(t++kk)) .run KN).oper?=some o:=ho;rw[this];rfl
      rw[e3,e4];exact opR hF hw ht hG Z_ hok (by rw[s5];rfl) Ds.symm hE h ha ho
    have e1:cF P true true (Fr fn tmps (.inRegion aP (i::rest)::t) .run) l none lw=.go (G ((Fr fn tmps (.inRegion aP (i::rest)::t) .run).finish aw) l) lw:=if_neg ZE
    have e2:cF P main true (jz fn bH (.inRegion aP (i::rest)::t++kk) .run KN) l' none w=.go (G ((jz fn bH (.inRegion aP (i::rest)::t++kk) .run KN).finish aw) l') w:=by
     rw[<-hy] at ZE;exact if_neg ZE
    exact gP hw (h.set' (Bz _ _) (by rw[s5,Ds];exact D6 ha hok uj)) e1 e2
  |code c=>
   cases c with
   |ret=>exact gP hw (adO _ _) rfl rfl
   |skip=>exact gP hw (Di t J4) rfl rfl
   |label n=>exact gP hw (Di t J4) rfl rfl
   |seq a b=>
    have hx':iL P F a=true/\iL P F b=true:=by simpa [iW,iL] using hx
    exact gP hw (Di (.code a::.code b::t) (iP hx'.1 (iP hx'.2 J4))) rfl rfl
   |cond c a b=>
    have hx':(Bc F c=true/\iL P F a=true)/\iL P F b=true:=by simpa [iW,iL] using hx
    have hv:=ku (fr:=Fr fn tmps (.code (.cond c a b)::t) .run) (fr':=jz fn bH (.code (.cond c a b)::t++kk) .run KN) ha hx'.1.1
    have e1:cF P true true (Fr fn tmps (.code (.cond c a b)::t) .run) l none lw=(match (Fr fn tmps (.code (.cond c a b)::t) .run).eval c with
     |.bool x=>.go (G (Fr fn tmps (.code (if x then a else b)::t) .run) l) lw
     |_=>.ended (.stuck "cond: bool expected" ((Fr fn tmps (.code (.cond c a b)::t) .run).pos P)) lw):=rfl
    have e2:cF P main true (jz fn bH (.code (.cond c a b)::t++kk) .run KN) l' none w=(match (jz fn bH (.code (.cond c a b)::t++kk) .run KN).eval c with
     |.bool x=>.go (G (jz fn bH (.code (if x then a else b)::t++kk) .run KN) l') w
     |_=>.ended (.stuck "cond: bool expected" ((jz fn bH (.code (.cond c a b)::t++kk) .run KN).pos P)) w):=rfl
    rw[e1,e2];generalize (Fr fn tmps (.code (.cond c a b)::t) .run).eval c=v at hv ⊢;generalize (jz fn bH (.code (.cond c a b)::t++kk) .run KN).eval c=v' at hv ⊢;cases hv<;>first|exact .inl ⟨_,_,_,rfl⟩|skip
    rename_i x;refine gP hw (Di (.code (if x then a else b)::t) (iP ?_ J4)) rfl rfl;cases x
    .exact hx'.2
    exact hx'.1.2
   |block id c=>exact gP hw (Di (.code c::.inBlock id::t) (iP hx (iP rfl J4))) rfl rfl
   |loop c=>exact gP hw (Di (.code c::.inLoop c::t) (iP hx (iP hx J4))) rfl rfl
   |exit id=>
    cases he:exitTo id t with
    |none=>
     refine .inl ⟨.stuck "exit, goto: no such block or label" ((Fr fn tmps (.code (.exit id)::t) .run).pos P),lw,#[],?_⟩;show(exitTo id t).elim _ _=_;rw[he];rfl
    |some t'=>
     refine gP hw (Di t' (yN J4 he)) ?_ ?_
     .show(exitTo id t).elim _ _=_;rw[he];rfl
     show(exitTo id (t++kk)).elim _ _=_;rw[yP he];rfl
   |region id aP draw=>
    cases draw with
    |false=>exact gP hw (Di (.inRegion aP (List.range aP.size)::t) (iP hx J4)) rfl rfl
    |true=>
     have h0:lw.tape lw.drawn=w.tape w.drawn:=ht 0;refine .inr (.inr (.inr ⟨_,_,_,_,_,_,_,_,U,rfl,?_,Di (.inRegion aP (Region.schedule (P.follows .mixedOrders) aP (lw.tape lw.drawn (.order fn id)))::t) (iP hx J4),H9 hw⟩));rw[h0];rfl
   |_=>cases hx
  |_=>cases hx
theorem Rp{ι:Type}{f f':ι->iT aj}(hf:∀a,cu P F (At U (VR F U)) U (f a) (f' a))(l:Array ι):cu P F (At U (iZ F U)) U (l.mapM f) (l.mapM f'):=by
 rw[pH,pH]
 have:∀l:List ι,cu P F (At U (Tn F U)) U (l.mapM f) (l.mapM f'):=by
  intro l;rw[<-List.mapM'_eq_mapM,<-List.mapM'_eq_mapM]
  induction l with
  |nil=>exact .dB .nil
  |cons a l ih=>exact(hf a).dO fun _ _ h1=>ih.dO fun _ _ h2=>.dB (.cons h1 h2)
 exact(this l.toList).dO fun _ _ h=>.dB h.row
theorem LC{v v':aj}(h:VR F U v v'):cu P F (At U (AR U)) U (asAddr v) (asAddr v'):=by
 cases h<;>first|exact bt|exact gQ (e:=.nilDeref)|exact .dB ‹_›
theorem Jl{tmps bH:Array aj}(ha:iZ F U tmps bH)(fn:Func):cu P F (At U (VR F U)) U (results fn tmps) (results fn bH):=by
 unfold results;refine(Rp (fun r=>?_) fn.results).dO fun vs vs' ZG=>?_
 .cases r with
  |tmp t=>exact .dB (ha.getD uj t)
  |cell a t=>exact(LC (ha.getD uj a)).dO fun x y h=>zy h
 have hs:=ZG.size
 by_cases h1:vs.size=1
 .have h2:vs'.size=1:=oN;simp only[h1,h2,dif_pos];exact .dB (ZG.at_ 0 _ _ (aQ oN) (aQ oN))
 have h2:¬vs'.size=1:=oN;simp only[h1,h2,dif_neg,not_false_eq_true];exact .dB ZG.tuple
theorem Qa(h0:WR F P.globals.size B U lw w){fr fr':b_}{l l':List b_}(h:SR P F U k kd cs fr l fr' l'){v v':aj}{kW w1:ak}{evs:Array gO}{ρ1:Rn}
  (hv:VR F ρ1 v v') (hw:m8 F P.globals.size B U lw w ρ1 kW w1 evs) (es:Array gO) :
  I9 P F P.globals.size B U k kd cs lw w (Ce es (uL P true fr l none v kW)) (Ce evs (uL P main fr' l' none v' w1)):=by
 cases h with
 |base h hi=>
  refine .inl ?_;unfold uL;dsimp only;rw[h.kinds.1,hi];exact⟨_,_,_,rfl⟩
 |@up _ _ c c' r r' h aeA aeW hr=>
  unfold uL;dsimp only;rw[h.kinds.1,h.kinds.2];have hr':=hr.mono hw.le;have OO:=hr'.top;refine .inr (.inr (.inr ⟨_,_,_,_,_,_,_,_,ρ1,rfl,rfl,hr'.set' (Bz _ _) ?_,hw.more fun e he=>hw.evs e (by simpa using he)⟩));refine ?_;generalize (if r=[] then k else[])=kk at OO ⊢;generalize (if r=[] then kd else CallKind.normal)=KN at OO ⊢;cases OO with
  |ret _=>cases aeW
  |@run fn tmps bH todo ha hok=>
   cases todo with
   |nil=>exact absurd rfl aeA
   |cons x t=>
    cases x with
    |inRegion aP is=>
     cases is with
     |nil=>exact .run (todo:=.inRegion aP []::t) ha hok
     |cons i rest=>exact D6 ha hok hv
    |code c=>exact .run (todo:=.code c::t) ha hok
    |inBlock id=>exact .run (todo:=.inBlock id::t) ha hok
    |inLoop c=>exact .run (todo:=.inLoop c::t) ha hok
    |_=>exact absurd (l7 hok).1 (by simp[iW])
theorem XD(hw:WR F P.globals.size B U lw w)(ht:wN lw w)(hG:P.globals.size<=lw.heap.size)(Z_:P.globals.size<=w.heap.size)
  {fn:d_} {tmps bH:Array aj} {todo PZ:List pW} {l l':List b_} {kk:kh} (h:SR P F U k kd cs (Fr fn tmps todo .returning) l (jz fn bH PZ .returning kk) l') (ha:iZ F U tmps bH) :
  I9 P F P.globals.size B U k kd cs lw w (mg P true (Fr fn tmps todo .returning) l none lw) (mg P main (jz fn bH PZ .returning kk) l' none w):=by
 unfold mg;dsimp only[Fr,jz];cases hf:P.funcs[fn]? with
 |none=>
  have:=Qa (main:=main) hw h (ha.getD uj 0) (.refl hw) #[];have e:∀s:GStep,Ce #[] s=s:=fun s=>by cases s<;>simp[Ce]
  rw[e,e] at this;exact this
 |some f=>
  rcases(Jl (P:=P) ha f).runT hw ht hG Z_ #[] #[] with⟨a,kW,le,b,w1,evs,ρ1,h1,h2,h3,h4⟩|⟨e,kW,le,h1,h2⟩
  .simp only[fD] at h2;simp only[h1,h2];obtain⟨rfl,hv⟩:=h3;exact Qa hw h hv (h4.more fun e he=>h4.evs e (mem_seen he)) _
  simp only[h1];cases e<;>exact .inl ⟨_,_,_,rfl⟩
theorem adJ(hF:vn P F)(hw:WR F P.globals.size B U lw w)(ht:wN lw w)(hG:P.globals.size<=lw.heap.size)(Z_:P.globals.size<=w.heap.size)
  {fr fr':b_} {l l':List b_} (h:SR P F U k kd cs fr l fr' l') (hk:l=[]->fr.mode=.run->fr.todo=[]->k=[]) (hE:kd≠.early) :
  I9 P F P.globals.size B U k kd cs lw w (fE P true (G fr l) lw) (fE P main (G fr' l') w):=by
 have OO:=h.top;generalize s5:(if l=[] then k else[])=kk at OO;generalize Ds:(if l=[] then kd else CallKind.normal)=KN at OO;cases OO with
 |run ha hok=>
  subst s5;subst Ds;exact af6 (main:=main) hF hw ht hG Z_ h hE ha hok fun h1 h2=>hk h1 rfl h2
 |ret ha=>exact XD (main:=main) hw ht hG Z_ h ha
end
structure iV(K:Nat->Prop)(w w1:ak):Prop where
 grow:w.heap.size<=w1.heap.size
 keep:∀c,K c->w1.heap[c]?=w.heap[c]?
def iV.refl(K:Nat->Prop)(w:ak):iV K w w:=⟨aO _,fun _ _=>rfl⟩
def iV.trans{K:Nat->Prop}{a b c:ak}(h:iV K a b)(h':iV K b c):iV K a c:=⟨aF h.grow h'.grow,fun x hx=>(h'.keep x hx).trans (h.keep x hx)⟩
def own(O:Nat->Prop)(w w':ak):Nat->Prop:=fun c=>O c\/(w.heap.size<=c/\c<w'.heap.size)
structure KJ(S O:Nat->Prop)(w w':ak)(es:Array gO):Prop where
 grow:w.heap.size<=w'.heap.size
 keep:∀c,c<w.heap.size->¬O c->w'.heap[c]?=w.heap[c]?
 tape:w'.tape=w.tape
 drawn:w.drawn<=w'.drawn
 os:w'.os=w.os
 out:w'.output=w.output
 evs:∀e∈es,TI (fun c=>S c\/own O w w' c) (own O w w') e
inductive Walk(P:aN)(main:Bool)(S:Nat->Prop)(Stop:(Nat->Prop)->aH->ak->Prop):(Nat->Prop)->aH->ak->Prop
 |stop {O:Nat->Prop} {g:aH} {w:ak}:(∀w1,iV (fun c=>S c\/O c) w w1->Stop O g w1)->Walk P main S Stop O g w
 |step {O:Nat->Prop} {g:aH} {w:ak}:g.status=.running->g.dying=none->
   (∀w1,iV (fun c=>S c\/O c) w w1->∃g2 w2 es,fE P main g w1=.go g2 w2 es/\KJ S O w1 w2 es/\g2.status=.running/\g2.dying=none)->
   (∀w1,iV (fun c=>S c\/O c) w w1->∀g2 w2 es,fE P main g w1=.go g2 w2 es->Walk P main S Stop (own O w1 w2) g2 w2)->Walk P main S Stop O g w
section
variable{P:aN}{main:Bool}{S:Nat->Prop}{Stop aan:(Nat->Prop)->aH->ak->Prop}{O:Nat->Prop}{g:aH}{w:ak}
theorem Walk.bind(h:Walk P main S Stop O g w)(k:∀O g w,Stop O g w->Walk P main S aan O g w):Walk P main S aan O g w:=by
 induction h with
 |@stop O g w h=>exact k _ _ _ (h w (.refl _ _))
 |step a b c d ih=>exact .step a b c ih
theorem Walk.mk{r:g.status=.running}{d:g.dying=none}(h:∀w1,iV (fun c=>S c\/O c) w w1->∃g2 w2 es,fE P main g w1=.go g2 w2 es/\KJ S O w1 w2 es/\g2.status=.running/\g2.dying=none/\Walk P main S Stop (own O w1 w2) g2 w2):Walk P main S Stop O g w:=by
 refine .step r d (fun w1 h1=>?_) fun w1 h1 g2 w2 es e=>?_
 .obtain⟨g2,w2,es,e,hg,hr,hd,_⟩:=h w1 h1;exact⟨g2,w2,es,e,hg,hr,hd⟩
 obtain⟨g3,w3,es3,e3,_,_,_,hw⟩:=h w1 h1;rw[e] at e3;injection e3 with e4 e5 e6
 rw[e4,e5];exact hw
end
section
variable{P:aN}{F:Nat->Bool}{B:Nat->Prop}{U:Rn}{k:List pW}{kd:kh}{cs:List b_}{lw w:ak}{main:Bool}{Stop:aH->ak->Prop}
theorem zV{g g1 g':aH}{kW eL:ak}{es:Array gO}(h:si P g lw g' eL)(e:fE P true g lw=.go g1 kW es):g'=g1/\eL=kW:=by
 obtain⟨hr,_,⟨aP,hs⟩,_⟩:=h;rw[stepT_solo hr,nP] at hs;have O7:(#[g]:Array aH)[0]?=some g:=rfl;have e1:=runT_crowd_go (P:=P) (gs:=#[g]) (w:=lw) (sl:=none) (i:=0) O7 e;rw[e1] at hs;injection hs with hs1 _
 injection hs1 with hs3
 have:(#[g].map (woken P g g1 kW)).setIfInBounds 0 g1 = #[g1]:=sN;rw[this,<-nP] at hs3;obtain⟨h1,h2⟩:=oQ hs3;exact⟨h1.symm,h2.symm⟩
theorem vY{g g':aH}{kW eL:ak}{o:Outcome}{es:Array gO}(h:si P g lw g' eL)(e:fE P true g lw=.ended o kW es):False:=by
 obtain⟨hr,_,⟨aP,hs⟩,_⟩:=h;rw[stepT_solo hr,nP] at hs;have O7:(#[g]:Array aH)[0]?=some g:=rfl;have e1:=runT_many_ended (P:=P) (gs:=#[g]) (w:=lw) (sl:=none) (i:=0) O7 e;rw[e1] at hs;injection hs with hs1 _
 cases hs1
theorem OC{g g1 g':aH}{kW eL:ak}{ch v:aj}{es:Array gO}(h:si P g lw g' eL)(e:fE P true g lw=.comm g1 #[{ chan:=ch,send:=some v,zero:=.tuple #[] }] true .send kW es)
  (hn:∀(b:Nat) (o:Obj),kW.heap[b]?=some o->o.isChan=false):False:=by
 obtain⟨hr,_,⟨aP,hs⟩,hr',_⟩:=h;rw[stepT_solo hr,nP] at hs;have O7:(#[g]:Array aH)[0]?=some g:=rfl;have e1:=runT_crowd_comm (P:=P) (gs:=#[g]) (w:=lw) (sl:=none) (i:=0) O7 e;rw[e1] at hs;injection hs with hs1 _
 have lK:∀c:nj,(c.chan=.chan none\/(match c.chan with
   |.chan none=>false
   |.chan (some r)=>!(kW.heap[r]? matches some (.chan ..))
   |_=>true)=true):=by
  intro c;cases hc:c.chan with
  |chan r=>
   cases r with
   |none=>exact .inl rfl
   |some r=>
    right;dsimp only;cases hh:kW.heap[r]? with
    |none=>rfl
    |some o=>
     have:=hn r o hh;cases o<;>first|rfl|cases this
  |_=>exact .inr rfl
 unfold communicate at hs1;rcases lK { chan:=ch,send:=some v,zero:=.tuple #[] } with hb|hb
 .dsimp only at hb;subst hb;have hw:∀gs:Array aH,ways kW gs { chan:=.chan none,send:=some v,zero:=.tuple #[] }=[]:=fun gs=>rfl;simp[hw,waitingAt,timerAhead] at hs1;have h1:=congrArg Machine.gs hs1;have h2:(#[g].setIfInBounds 0 { g1 with status:=.blocked,offers:=some (#[{ chan:=.chan none,send:=some v,zero:=.tuple #[] }],.send) }:Array aH) = #[g']:=by simpa [solo,crowd] using h1
  have h3:g'={ g1 with status:=.blocked,offers:=some (#[{ chan:=.chan none,send:=some v,zero:=.tuple #[] }],.send) }:=by
   have:=congrArg (fun a:Array aH=>a[0]?) h2;simpa using this.symm
  rw[h3] at hr';cases hr'
 dsimp only at hb;simp at hs1;rw[if_pos] at hs1
 .cases hs1
 exact hb
theorem TT(hS:∀g W,Stop g W->¬PI g){g:aH}{W:ak}(h:Bar P Stop g W):¬PI g:=by
 induction h with
 |stop h=>exact hS _ _ h
 |@step g W live down ih=>
  intro hs;obtain⟨g',W',hl⟩:=live W.tape fun _ _=>rfl;rcases Ra (P:=P) (lw:=dH W W.tape W.drawn) hs hl.2.1 hl.1 with⟨o,w1,es,e⟩|⟨g1,w1,es,e,hs1⟩
  .exact vY hl e
  obtain⟨rfl,rfl⟩:=zV hl e;exact ih W.tape (fun _ _=>rfl) _ _ hl hs1
theorem Tk{fn:d_}{tmps:Array aj}{todo:List pW}(hi:P.inits.idxOf? fn=none):∃o w1 es,fE P true (G (Fr fn tmps todo .returning) []) lw=.ended o w1 es:=by
 have e:fE P true (G (Fr fn tmps todo .returning) []) lw=mg P true (Fr fn tmps todo .returning) [] none lw:=rfl;rw[e]
 have hd:∀v w,uL P true (Fr fn tmps todo .returning) [] none v w=.ended (.done v) w:=by
  intro v w;unfold uL;simp only[Fr,jz,hi];rfl
 unfold mg;dsimp only[Fr,jz];cases P.funcs[fn]? with
 |none=>exact⟨_,_,_,hd _ _⟩
 |some f=>
  dsimp only;generalize (results f tmps).runT P lw #[]=r;obtain⟨r,es⟩:=r;cases r with
  |ok v w=>
   have:=hd v w;simp only[Fr,jz] at this;simp only[this];exact⟨_,_,_,rfl⟩
  |halt e w=>cases e<;>exact⟨_,_,_,rfl⟩
theorem WR.rely(h:WR F P.globals.size B U lw w){w1:ak}(hr:iV (fun c=>(∃b,B b/\U b=some c)\/U.owns B c) w w1):WR F P.globals.size B U lw w1:=by
 refine⟨h.inj,h.low,h.base,fun b c hb=>?_,h.JL⟩;obtain⟨o,o',h1,h2,h3,h4⟩:=h.at_ b c hb;refine⟨o,o',h1,?_,h3,h4⟩;rw[hr.keep c ?_,h2];rcases Classical.em (B b) with hl|hg
 .exact .inl ⟨b,hl,hb⟩
 exact .inr ⟨b,hg,hb⟩
theorem m8.owns{ρ1:Rn}{kW w1:ak}{es:Array gO}(h0:WR F P.globals.size B U lw w)(h:m8 F P.globals.size B U lw w ρ1 kW w1 es):ρ1.owns B=own (U.owns B) w w1:=by
 funext c
 refine propext ⟨?_,?_⟩
 .rintro⟨b,hb,he⟩;rcases h.new b c he with h1|⟨_,h2⟩
  .exact .inl ⟨b,hb,h1⟩
  obtain⟨_,_,_,hc,_⟩:=h.wr.at_ b c he;exact .inr ⟨h2,eR hc⟩
 rintro(⟨b,hb,he⟩|⟨h1,h2⟩)
 .exact⟨b,hb,h.le _ _ he⟩
 obtain⟨b,he⟩:=h.fresh c h1 h2;rcases h.new b c he with h3|⟨h3,_⟩
 .obtain⟨_,_,_,hc,_⟩:=h0.at_ b c h3;have:=eR hc;omega
 exact⟨b,fun hb=>by have:=h0.base b hb;omega,he⟩
theorem m8.shared{ρ1:Rn}{kW w1:ak}{es:Array gO}(h0:WR F P.globals.size B U lw w)(h:m8 F P.globals.size B U lw w ρ1 kW w1 es)(c:Nat):(∃b,B b/\ρ1 b=some c)↔∃b,B b/\U b=some c:=by
 constructor
 .rintro⟨b,hb,he⟩;rcases h.new b c he with h1|⟨h1,_⟩
  .exact⟨b,hb,h1⟩
  have:=h0.base b hb;omega
 rintro⟨b,hb,he⟩;exact⟨b,hb,h.le _ _ he⟩
structure agS(P:aN)(F:Nat->Bool)(B:Nat->Prop)(k:List pW)(kd:kh)(cs:List b_)(Stop:aH->ak->Prop)(lw0:ak)(ρ0:Rn)(O:Nat->Prop)(g':aH)(w':ak)(fr:b_)(l:List b_)(lw:ak)(U:Rn)(fr':b_)(l':List b_):Prop where
 g:g'=G fr' l'
 stop:Stop (G fr l) lw
 sr:SR P F U k kd cs fr l fr' l'
 wr:WR F P.globals.size B U lw w'
 wB:P.globals.size<=w'.heap.size
 own:O=U.owns B
 shared:∀c,(∃b,B b/\U b=some c)↔∃b,B b/\ρ0 b=some c
 le:Rn.le ρ0 U
 grow:lw0.heap.size<=lw.heap.size
 ok:dI lw
theorem Lc(T:Quiet P)(hF:vn P F)(hS:∀g W,Stop g W->¬PI g)(hE:kd≠.early)(hk:k=[]\/∀g W,Stop g W->g.frame.mode=.run){S:Nat->Prop} :
  ∀ {g:aH} {lw:ak},Bar P Stop g lw->A0 g->dI lw->P.globals.size<=lw.heap.size->∀ {fr:b_} {l:List b_} {U:Rn} {fr':b_} {l':List b_} {w:ak},g=G fr l->SR P F U k kd cs fr l fr' l'->WR F P.globals.size B U lw w->P.globals.size<=w.heap.size->
   (∀c,S c↔∃b,B b/\U b=some c)->
   Walk P main S (fun O g' w'=>∃He l1 kW ρ1 xE Yj,agS P F B k kd cs Stop lw U O g' w' He l1 kW ρ1 xE Yj) (U.owns B) (G fr' l') w:=by
 intro g lw h
 induction h with
 |@stop g lw h=>
  rintro YC hok hG fr l U fr' l' w rfl hsr hw CY YK;have eK:(fun c=>S c\/U.owns B c)=fun c=>(∃b,B b/\U b=some c)\/U.owns B c:=by funext c;rw[YK c]
  refine .stop fun w1 hr=>?_;rw[eK] at hr;exact⟨fr,l,lw,U,fr',l',rfl,h,hsr,hw.rely hr,aF CY hr.grow,rfl,fun c=>Iff.rfl,Rn.le_refl _,aO _,hok⟩
 |@step g lw live down ih=>
  rintro YC hok hG fr l U fr' l' w rfl hsr hw CY YK;have eK:(fun c=>S c\/U.owns B c)=fun c=>(∃b,B b/\U b=some c)\/U.owns B c:=by funext c;rw[YK c]
  refine Walk.mk (r:=rfl) (d:=rfl) fun w1 hr=>?_;have hr0:=hr;rw[eK] at hr;have hw1:=hw.rely hr;have afg:=aF CY hr.grow;let I:Nat->dQ->Nat:=fun p=>if p<lw.drawn then lw.tape p else w1.tape (w1.drawn+(p-lw.drawn))
  have OU:Ext lw I:=fun i hi=>by simp only[I,if_pos hi]
  have ht:wN (dH lw I lw.drawn) w1:=fun i=>by simp only[zM,qq,I,if_neg (show ¬lw.drawn+i<lw.drawn by omega),tk]
  obtain⟨g1,kW,hl⟩:=live I OU;obtain⟨aff,wh,_⟩:=rO T YC (lw:=dH lw I lw.drawn) hok hl
  have rA:l=[]->fr.mode=.run->fr.todo=[]->k=[]:=by
   rintro rfl hm htd;rcases hk with hk|hk
   .exact hk
   .exfalso;cases hsr with
    |base hfr hi=>
     cases hfr with
     |ret _=>cases hm
     |@run fn tmps bH todo ha hok=>
      dsimp only[Fr,jz] at htd;subst htd;have e:fE P true (G (Fr fn tmps [] .run) []) (dH lw I lw.drawn)=.go (G (Fr fn tmps [] .returning) []) (dH lw I lw.drawn) #[]:=rfl;obtain⟨rfl,rfl⟩:=zV hl e;have ajt:=down I OU _ _ hl;cases ajt with
      |stop h=>exact absurd (hk _ _ h) (by simp[G,Fr,jz])
      |step aer _=>
       obtain⟨g2,w2,hl2⟩:=aer _ fun _ _=>rfl;obtain⟨o,w3,es,e3⟩:=Tk (P:=P) (lw:=dH (dH lw I lw.drawn) (dH lw I lw.drawn).tape (dH lw I lw.drawn).drawn) (fn:=fn) (tmps:=tmps) (todo:=[]) hi;exact vY hl2 e3
  have aa4:WR F P.globals.size B U (dH lw I lw.drawn) w1:=hw1.tape I w1.tape lw.drawn w1.drawn;rcases adJ (main:=main) hF aa4 ht hG afg hsr rA hE with⟨o,lw2,es,e⟩|⟨g2,lw2,es,e,hs⟩|⟨g2,ch,v,lw2,es,e,hn⟩|⟨He,l1,lw2,es,xE,Yj,w2,evs,ρ1,e,e',ait,rR⟩
  .exact(vY hl e).elim
  .obtain⟨rfl,rfl⟩:=zV hl e;exact absurd hs (TT hS (down I OU _ _ hl))
  .exact(OC hl e hn).elim
  obtain⟨rfl,rfl⟩:=zV hl e;have hown:=rR.owns aa4;have ZL:=rR.shared aa4;refine⟨_,_,_,e',⟨rR.grow,rR.keep,rR.tape,?_,rR.os,rR.out,fun x hx=>?_⟩,rfl,rfl,?_⟩
  .obtain⟨k1,_,h2⟩:=rR.draw;omega
  .refine(rR.evs x hx).mono (fun c hc=>?_) fun c hc=>by rw[hown] at hc;exact hc
   obtain⟨b,hb⟩:=hc;rcases Classical.em (B b) with hlt|hge
   .exact .inl ((YK c).2 ((ZL c).1 ⟨b,hlt,hb⟩))
   right;rw[<-hown];exact⟨b,hge,hb⟩
  rw[<-hown];refine(ih I OU _ _ hl aff wh (aF hG rR.IE) rfl ait rR.wr (aF afg rR.grow) fun c=>(YK c).trans (ZL c).symm).bind fun O g' w' hE=>?_;obtain⟨a1,a2,a3,a4,a5,a6,hE⟩:=hE
  exact .stop fun w3 h3=>⟨a1,a2,a3,a4,a5,a6,⟨hE.g,hE.stop,hE.sr,hE.wr.rely (by
   have:(fun c=>S c\/O c)=fun c=>(∃b,B b/\a4 b=some c)\/a4.owns B c:=by
    funext c;rw[YK c,hE.own,hE.shared c,ZL c]
   rwa [this] at h3),aF hE.wB h3.grow,hE.own,fun c=>(hE.shared c).trans (ZL c),Rn.le_trans rR.le hE.le,aF rR.IE hE.grow,hE.ok⟩⟩
end
section
variable{P:aN}{α β:Type}
end
section
variable{P:aN}{F:Nat->Bool}{B:Nat->Prop}{U ρ1:Rn}{lw kW w w1:ak}{main:Bool}
structure Kn(P:aN)(F:Nat->Bool)(B:Nat->Prop)(S:Nat->Prop)(lw0:ak)(ρ0:Rn)(O:Nat->Prop)(w':ak)(lw:ak)(U:Rn):Prop where
 wr:WR F P.globals.size B U lw w'
 wB:P.globals.size<=w'.heap.size
 own:O=U.owns B
 shared:∀c,S c↔∃b,B b/\U b=some c
 le:Rn.le ρ0 U
 grow:lw0.heap.size<=lw.heap.size
 ok:dI lw
theorem Kn.rely{S:Nat->Prop}{lw0:ak}{ρ0:Rn}{O:Nat->Prop}{w' w2:ak}(h:Kn P F B S lw0 ρ0 O w' lw U)(hr:iV (fun c=>S c\/O c) w' w2):Kn P F B S lw0 ρ0 O w2 lw U:=
 ⟨h.wr.rely (by
  have e:(fun c=>S c\/O c)=fun c=>(∃b,B b/\U b=some c)\/U.owns B c:=by funext c;rw[h.shared c,h.own]
  rwa [e] at hr),aF h.wB hr.grow,h.own,h.shared,h.le,h.grow,h.ok⟩
theorem Ec(T:Quiet P)(hF:vn P F)(hG:P.globals.size<=lw.heap.size){fn:d_}{kd:kh}(hE:kd≠.early)(hi:P.inits.idxOf? fn=none){c:Code}(hc:iL P F c=true)(hc':eb c=true){tmps bH:Array aj}(ha:iZ F U tmps bH)
  (hw:WR F P.globals.size B U lw w) (CY:P.globals.size<=w.heap.size) (hok:dI lw) {Q:Act->ak->Prop} (hQ:∀a W' I d,Q a (dH W' I d)->Q a W')
  (h:∀I d,c.wp P (fun e a W'=>e=.normal/\Q a W') ⟨tmps,[]⟩ (dH lw I d)) {S:Nat->Prop} (YK:∀c,S c↔∃b,B b/\U b=some c) (k:List pW) (cs:List b_) :
  Walk P main S (fun O g' w'=>∃nX lx kW ρ1,g'=G (jz fn lx k .run kd) cs/\iZ F ρ1 nX lx/\Q ⟨nX,[]⟩ kW/\Kn P F B S lw U O w' kW ρ1) (U.owns B) (G (jz fn bH (.code c::k) .run kd) cs) w:=by
 have hb:Bar P (fun g W=>∃a1,g=G ((Fr fn #[] [] .run).at a1 []) []/\Q a1 W) (G (Fr fn tmps [.code c] .run) []) lw:=by
  refine Dg T ?_ ?_ ⟨⟨by simpa [G,Fr,jz,iX] using hc',rfl⟩,by simp[G],.inl rfl⟩ hok rfl rfl fun I _=>?_
  .rintro g W I d ⟨a1,h1,h2⟩;exact⟨a1,h1,hQ _ _ _ _ h2⟩
  .rintro g W ⟨a1,rfl,_⟩;exact⟨rfl,rfl⟩
  obtain⟨e,a',w',⟨rfl,hq⟩,n,hn⟩:=h I lw.drawn (Fr fn #[] [] .run) [] [];exact⟨n,G ((Fr fn #[] [] .run).at a' []) [],w',hn,a',rfl,hq⟩
 have hns:∀g W,(∃a1,g=G ((Fr fn #[] [] .run).at a1 []) []/\Q a1 W)->¬PI g:=by
  rintro g W ⟨a1,rfl,_⟩ (hs|hs|⟨ch,hs,_⟩)
  .exact hs rfl
  .exact hs rfl
  cases hs
 have aiu:SR P F U k kd cs (Fr fn tmps [.code c] .run) [] (jz fn bH (.code c::k) .run kd) cs:=.base (.run (todo:=[.code c]) ha (by simpa [iW] using hc)) hi;refine(Lc (main:=main) T hF hns hE (.inr ?_) hb ⟨⟨by simpa [G,Fr,jz,iX] using hc',rfl⟩,by simp[G],.inl rfl⟩ hok hG rfl aiu hw CY YK).bind fun O g' w' hE=>?_
 .rintro g W ⟨a1,rfl,_⟩;rfl
 obtain⟨He,l1,kW,ρ1,xE,Yj,hE⟩:=hE;obtain⟨a1,hg,hq⟩:=hE.stop
 have hfl:He=(Fr fn #[] [] .run).at a1 []/\l1=[]:=by
  have h1:(G He l1).frame=(G ((Fr fn #[] [] .run).at a1 []) []).frame:=by rw[hg]
  have h2:(G He l1).callers=(G ((Fr fn #[] [] .run).at a1 []) []).callers:=by rw[hg]
  exact⟨h1,h2⟩
 obtain⟨h1,rfl⟩:=hfl;have aiV:Kn P F B S lw U O w' kW ρ1:=⟨hE.wr,hE.wB,hE.own,fun c=>(YK c).trans (hE.shared c).symm,hE.le,hE.grow,hE.ok⟩
 have hsr:=hE.sr;have Fo:=hE.g;generalize aje:([]:List b_)=l1 at hsr;cases hsr with
 |up _ _ _ _=>cases aje
 |base hfr hin=>
  cases hfr with
  |@ret fn1 nX lx Zw ahU Tz=>cases congrArg Frame.mode h1
  |@run fn1 nX lx Zw Tz hto=>
   have e1:fn1=fn:=congrArg Frame.fn h1;have e2:nX=a1.tmps:=congrArg Frame.tmps h1;have e3:Zw=[]:=congrArg Frame.todo h1;have e4:([]:List Deferred)=a1.defers:=congrArg Frame.defers h1;subst e1;subst e3;refine .stop fun w2 hr=>⟨nX,lx,kW,ρ1,Fo,Tz,?_,aiV.rely hr⟩
   rw[e2,e4];exact hq
end
def Dm:Loc->Option Nat
 |.cell a=>some a.block
 |.obj r=>some r
 |_=>none
structure PT(A:Nat->Prop)(S O:Nat->Nat->Prop)(B:Nat)(t:Trace):Prop where
 clean:∀said,¬Race said t
 known:∀i a c,touchAt t i=some a->Dm a.loc=some c->Knows t 0 i\/∃g,A g/\t.g? i=some g/\(O g c\/(a.write=false/\S g c))
 wk:∀g,A g->∀i a c,touchAt t i=some a->Dm a.loc=some c->S g c->a.write=true->Knows t g i
 ow:∀g,A g->∀i a c,touchAt t i=some a->Dm a.loc=some c->O g c->t.g? i=some g
 over:∀i g,t.g? i=some g->g≠0->t.counts i->(∃j,t.g? j=some 0/\HappensBefore t i j)\/A g
 hears:Deaf t 0=0
 wy:∀g,A g->Deaf t g=0
 seen:∀op∈t,op.act.low B
 pos:∀g,A g->g≠0
section
variable{A A':Nat->Prop}{S O S' O':Nat->Nat->Prop}{B B':Nat}{t u:Trace}
theorem E7{l:Loc}:l.isMemory=true↔∃c,Dm l=some c:=by
 cases l<;>simp[Loc.isMemory,Dm]
theorem Mc{l:Loc}{c:Nat}(h:Dm l=some c)(hl:l.low B):c<B:=by
 cases l<;>simp only[Dm,ia,reduceCtorEq] at h
 .subst h;exact hl
 subst h;exact hl
theorem Q9{op:MemOp}{x:Touch}{c:Nat}(h:op.act.touch?=some x)(hc:Dm x.loc=some c)(hl:op.act.low B):c<B:=by
 obtain⟨g,fn,pos,act⟩:=op;cases act with
 |access e=>
  simp only[MemAct.touch?,ia] at h;subst h;exact Mc hc hl
 |mark m=>
  cases m<;>simp only[MemAct.touch?,ia,reduceCtorEq] at h<;>(subst h;exact Mc hc hl)
 |_=>cases h
theorem PT.X5(h:Ny B t):PT (fun _=>False) S O B t:=by
 refine⟨h.clean,fun i a c ha hc=>.inl ?_,fun g hg=>hg.elim,fun g hg=>hg.elim,fun i g h1 h2 h3=>.inl (h.over i g h1 h2 h3),h.hears,fun g hg=>hg.elim,h.seen,fun g hg=>hg.elim⟩;rcases h.known i a ha (E7.2 ⟨c,hc⟩) with hk|⟨hs,_⟩
 .exact hk
 exact hs.elim
theorem PT.past(h:PT A S O B t)(hA:∀g,¬A g):Ny B t:=by
 refine⟨h.clean,fun i a ha hm=>.inl ?_,fun i g h1 h2 h3=>(h.over i g h1 h2 h3).resolve_right (hA g),h.hears,h.seen⟩;obtain⟨c,hc⟩:=E7.1 hm;rcases h.known i a c ha hc with hk|⟨g,hg,_⟩
 .exact hk
 exact(hA g hg).elim
theorem PT.lt(h:PT A S O B t){i:Nat}{a:Touch}{c:Nat}(ha:touchAt t i=some a)(hc:Dm a.loc=some c):c<B:=by
 obtain⟨x,hx,xV⟩:=touch_of ha;exact Q9 xV hc (h.seen x (mem_of_getElem? hx))
theorem g?_app{i:Nat}{g:Nat}(h:t.g? i=some g):(t++u).g? i=some g:=by
 obtain⟨x,hx,hg⟩:=eP.1 h;rw[g?_old (lt_size_of_getElem? hx)];exact h
def KF(R W:Nat->Prop)(op:MemOp):Prop:=∀x,op.act.touch?=some x->x.kind=.plain/\∃c,Dm x.loc=some c/\R c/\(x.write=true->W c)
def oA(op:MemOp):Prop:=op.act≠.mark .disable/\op.act≠.mark .enable
theorem iF(t:Trace)(g:Nat)(u:Trace)(hu:∀op∈u,oA op):Deaf (t++u) g=Deaf t g:=by
 have key:∀(l:List MemOp) (d:Nat),(∀op∈l,oA op)->l.foldl (deafStep g) d=d:=by
  intro l
  induction l with
  |nil=>intro d _;rfl
  |cons y l ih=>
   intro d hl;have hy:=hl y sN;rw[List.foldl_cons]
   have:deafStep g d y=d:=by
    unfold deafStep;split
    .rename_i e;exact absurd e hy.1
    .rename_i e;exact absurd e hy.2
    rfl
   rw[this];exact ih d fun op hop=>hl op (by simp[hop])
 have:=Deaf_append t g u.toList;simp only[Array.toArray_toList] at this;rw[this];exact key _ _ fun op hop=>hu op (by simpa using hop)
theorem rW{i:Nat}(hi:i<t.size):(t++u).counts i->t.counts i:=by
 rintro⟨x,hx,hm,hk⟩;refine⟨x,?_,hm,?_⟩
 .rw[act?_old hi] at hx;exact hx
 exact hk.imp id fun h=>(heard_old hi).1 h
theorem Aq{i:Nat}(h:t.counts i):∃x c,touchAt t i=some x/\Dm x.loc=some c:=by
 obtain⟨x,hx,hm,_⟩:=h;obtain⟨c,hc⟩:=E7.1 hm;exact⟨x,c,hx,hc⟩
theorem PT.app0(h:PT A S O B t){R W:Nat->Prop}(hB:B<=B')(hu:∀op∈u,op.g=0/\KF R W op/\oA op/\op.act.low B')(hR:∀g,A g->∀c,R c->¬O g c)(hW:∀g,A g->∀c,W c->¬S g c):PT A S O B' (t++u):=by
 refine⟨fun said=>noRace_append (h.clean said) (fun op hop=>(hu op hop).1) fun i a ha op hop b hb hc=>?_,fun i a c ha hc=>?_,fun g hg i a c ha hc hs hw=>?_,fun g hg i a c ha hc ho=>?_,fun i g h1 h2 h3=>?_,?_,fun g hg=>?_,?_,h.pos⟩
 .obtain⟨_,c,Z7,hr,hwr⟩:=(hu op hop).2.1 b hb;rcases h.known i a c ha (hc.1▸Z7) with hk|⟨g,hg,_,Fi⟩
  .exact hk
  rcases Fi with ho|⟨hw,hs⟩
  .exact absurd ho (hR g hg c hr)
  have sG:b.write=true:=by
   rcases hc.2.2.1 with h1|h1
   .rw[hw] at h1;cases h1
   exact h1
  exact absurd hs (hW g hg c (hwr sG))
 .obtain⟨x,hx,xV⟩:=touch_of ha;rcases iB hx with⟨hi,hx'⟩|⟨_,IJ⟩
  .rcases h.known i a c (by rw[touchAt_of hx'];exact xV) hc with hk|⟨g,hg,OS,Fi⟩
   .exact .inl (hk.app u)
   exact .inr ⟨g,hg,g?_app OS,Fi⟩
  have:=knows_own hx;rw[(hu x IJ).1] at this;exact .inl this
 .obtain⟨x,hx,xV⟩:=touch_of ha;rcases iB hx with⟨hi,hx'⟩|⟨_,IJ⟩
  .exact(h.wk g hg i a c (by rw[touchAt_of hx'];exact xV) hc hs hw).app u
  obtain⟨_,c',hc',_,hwr⟩:=(hu x IJ).2.1 a xV;rw[hc] at hc';cases hc';exact absurd hs (hW g hg c (hwr hw))
 .obtain⟨x,hx,xV⟩:=touch_of ha;rcases iB hx with⟨hi,hx'⟩|⟨_,IJ⟩
  .exact g?_app (h.ow g hg i a c (by rw[touchAt_of hx'];exact xV) hc ho)
  obtain⟨_,c',hc',hr,_⟩:=(hu x IJ).2.1 a xV;rw[hc] at hc';cases hc';exact absurd ho (hR g hg c hr)
 .obtain⟨x,hx,J2⟩:=eP.1 h1;rcases iB hx with⟨hi,hx'⟩|⟨_,IJ⟩
  .rcases h.over i g (by rw[<-g?_old (u:=u) hi];exact h1) h2 (rW hi h3) with⟨j,hj,hb⟩|hA
   .exact .inl ⟨j,g?_app hj,hb_app u hb⟩
   exact .inr hA
  rw[(hu x IJ).1] at J2;exact absurd J2.symm h2
 .rw[iF _ _ _ fun op hop=>(hu op hop).2.2.1];exact h.hears
 .rw[iF _ _ _ fun op hop=>(hu op hop).2.2.1];exact h.wy g hg
 exact seen_app (fun op hop=>MemAct.low_mono hB (h.seen op hop)) fun op hop=>(hu op hop).2.2.2
theorem PT.appW(h:PT A S O B t){k:Nat}(hk:A k){W:Nat->Prop}(hB:B<=B')(hu:∀op∈u,op.g=k/\KF (fun c=>S k c\/W c) W op/\oA op/\op.act.low B')
  (hW:∀c,W c->O k c\/B<=c) (hO:∀c,O k c->W c) (s5:∀c,W c->¬S k c) (hg:∀g,A g->g≠k->∀c,W c->¬S g c/\¬O g c) (hs:∀g,A g->g≠k->∀c,S k c->¬O g c) :
  PT A S (fun g=>if g=k then W else O g) B' (t++u):=by
 refine⟨fun said=>noRace_append (h.clean said) (fun op hop=>(hu op hop).1) fun i a ha op hop b hb hc=>?_,fun i a c ha hc=>?_,fun g OT i a c ha hc hs' hw=>?_,fun g OT i a c ha hc ho=>?_,fun i g h1 h2 h3=>?_,?_,fun g OT=>?_,?_,h.pos⟩
 .obtain⟨_,c,Z7,hr,hwr⟩:=(hu op hop).2.1 b hb;have hac:Dm a.loc=some c:=hc.1▸Z7;have hlt:=h.lt ha hac
  have own:O k c->Knows t k i:=fun ho=>by
   have:=h.ow k hk i a c ha hac ho;obtain⟨x,hx,J2⟩:=eP.1 this;have:=knows_own hx;rwa [J2] at this
  rcases hr with hr|hr
  .rcases hc.2.2.1 with h1|h1
   .exact h.wk k hk i a c ha hac hr h1
   exact absurd hr (s5 c (hwr h1))
  rcases hW c hr with ho|hge
  .exact own ho
  omega
 .obtain⟨x,hx,xV⟩:=touch_of ha;rcases iB hx with⟨hi,hx'⟩|⟨_,IJ⟩
  .rcases h.known i a c (by rw[touchAt_of hx'];exact xV) hc with qT|⟨g,OT,OS,Fi⟩
   .exact .inl (qT.app u)
   refine .inr ⟨g,OT,g?_app OS,Fi.imp (fun ho=>?_) id⟩
   by_cases e:g=k
   .subst e;simp only[if_true];exact hO c ho
   simp only[e,if_false];exact ho
  obtain⟨_,c',hc',hr,hwr⟩:=(hu x IJ).2.1 a xV;rw[hc] at hc';cases hc';refine .inr ⟨k,hk,by simp only[Trace.g?,hx,dM];rw[(hu x IJ).1],?_⟩;simp only[if_true];rcases hr with hr|hr
  .cases hw:a.write with
   |false=>exact .inr ⟨rfl,hr⟩
   |true=>exact .inl (hwr hw)
  exact .inl hr
 .obtain⟨x,hx,xV⟩:=touch_of ha;rcases iB hx with⟨hi,hx'⟩|⟨_,IJ⟩
  .exact(h.wk g OT i a c (by rw[touchAt_of hx'];exact xV) hc hs' hw).app u
  obtain⟨_,c',hc',_,hwr⟩:=(hu x IJ).2.1 a xV;rw[hc] at hc';cases hc'
  by_cases e:g=k
  .subst e;exact absurd hs' (s5 c (hwr hw))
  exact absurd hs' (hg g OT e c (hwr hw)).1
 .obtain⟨x,hx,xV⟩:=touch_of ha
  by_cases e:g=k
  .subst e;simp only[if_true] at ho;rcases iB hx with⟨hi,hx'⟩|⟨_,IJ⟩
   .have ha':touchAt t i=some a:=by rw[touchAt_of hx'];exact xV
    rcases hW c ho with ho'|hge
    .exact g?_app (h.ow g OT i a c ha' hc ho')
    have:=h.lt ha' hc;omega
   simp only[Trace.g?,hx,dM];rw[(hu x IJ).1]
  simp only[e,if_false] at ho;rcases iB hx with⟨hi,hx'⟩|⟨_,IJ⟩
  .exact g?_app (h.ow g OT i a c (by rw[touchAt_of hx'];exact xV) hc ho)
  obtain⟨_,c',hc',hr,_⟩:=(hu x IJ).2.1 a xV;rw[hc] at hc';cases hc';rcases hr with hr|hr
  .exact absurd ho (hs g OT e c hr)
  exact absurd ho (hg g OT e c hr).2
 .obtain⟨x,hx,J2⟩:=eP.1 h1;rcases iB hx with⟨hi,hx'⟩|⟨_,IJ⟩
  .rcases h.over i g (by rw[<-g?_old (u:=u) hi];exact h1) h2 (rW hi h3) with⟨j,hj,hb⟩|hA
   .exact .inl ⟨j,g?_app hj,hb_app u hb⟩
   exact .inr hA
  rw[(hu x IJ).1] at J2;exact .inr (J2▸hk)
 .rw[iF _ _ _ fun op hop=>(hu op hop).2.2.1];exact h.hears
 .rw[iF _ _ _ fun op hop=>(hu op hop).2.2.1];exact h.wy g OT
 exact seen_app (fun op hop=>MemAct.low_mono hB (h.seen op hop)) fun op hop=>(hu op hop).2.2.2
theorem fH(hn:∀op∈u,op.act.touch?=none){i:Nat}{a:Touch}(h:touchAt (t++u) i=some a):i<t.size/\touchAt t i=some a:=by
 obtain⟨x,hx,xV⟩:=touch_of h;rcases iB hx with⟨hi,hx'⟩|⟨_,IJ⟩
 .exact⟨hi,by rw[touchAt_of hx'];exact xV⟩
 rw[hn x IJ] at xV;cases xV
theorem CP(h:∀said,¬Race said t)(hn:∀op∈u,op.act.touch?=none)(said:Bool):¬Race said (t++u):=by
 rintro⟨i,j,Vd,⟨a,b,ha,hb,hc⟩,n1,n2⟩;obtain⟨hi,ha'⟩:=fH hn ha;obtain⟨hj,hb'⟩:=fH hn hb;exact h said ⟨i,j,Vd,⟨a,b,ha',hb',hc⟩,fun e=>n1 (hb_app u e),fun e=>n2 (hb_app u e)⟩
theorem PT.appMute(h:PT A S O B t)(hB:B<=B')(hn:∀op∈u,op.act.touch?=none/\oA op/\op.act.low B')(hA:∀g,A' g->A g)(hK:∀g,A g->¬A' g->∀i,Knows t g i->Knows (t++u) 0 i/\∃j,(t++u).g? j=some 0/\HappensBefore (t++u) i j):PT A' S O B' (t++u):=by
 have hn':=fun op hop=>(hn op hop).1;refine⟨CP h.clean hn',fun i a c ha hc=>?_,fun g hg i a c ha hc hs hw=>?_,fun g hg i a c ha hc ho=>?_,fun i g h1 h2 h3=>?_,?_,fun g hg=>?_,?_,fun g hg=>h.pos g (hA g hg)⟩
 .obtain⟨hi,ha'⟩:=fH hn' ha;rcases h.known i a c ha' hc with hk|⟨g,hg,OS,Fi⟩
  .exact .inl (hk.app u)
  by_cases Gs:A' g
  .exact .inr ⟨g,Gs,g?_app OS,Fi⟩
  obtain⟨x,hx,J2⟩:=eP.1 OS;have hkn:=knows_own hx;rw[J2] at hkn;exact .inl (hK g hg Gs i hkn).1
 .obtain⟨hi,ha'⟩:=fH hn' ha;exact(h.wk g (hA g hg) i a c ha' hc hs hw).app u
 .obtain⟨hi,ha'⟩:=fH hn' ha;exact g?_app (h.ow g (hA g hg) i a c ha' hc ho)
 .obtain⟨x,c,hx,_⟩:=Aq h3;obtain⟨hi,_⟩:=fH hn' hx;have OS:t.g? i=some g:=by rw[<-g?_old (u:=u) hi];exact h1
  rcases h.over i g OS h2 (rW hi h3) with⟨j,hj,hb⟩|OT
  .exact .inl ⟨j,g?_app hj,hb_app u hb⟩
  by_cases Gs:A' g
  .exact .inr Gs
  obtain⟨x,hx,J2⟩:=eP.1 OS;have hkn:=knows_own hx;rw[J2] at hkn;exact .inl (hK g OT Gs i hkn).2
 .rw[iF _ _ _ fun op hop=>(hn op hop).2.1];exact h.hears
 .rw[iF _ _ _ fun op hop=>(hn op hop).2.1];exact h.wy g (hA g hg)
 exact seen_app (fun op hop=>MemAct.low_mono hB (h.seen op hop)) fun op hop=>(hn op hop).2.2
end
section
variable{A A':Nat->Prop}{S O S' O':Nat->Nat->Prop}{B B':Nat}{t u:Trace}
theorem VW{g:Nat}(hu:∀op∈u,oA op):∀m,m<=u.size->(t++u).deaf g (t.size+m)=Deaf t g:=by
 intro m
 induction m with
 |zero=>intro _;exact deaf_old (aO _)
 |succ m ih=>
  intro hm
  have abz:(t++u)[t.size+m]?=some u[m]:=by
   rw[Array.getElem?_append_right oN,tk,aQ oN]
  rw[show t.size+(m+1)=t.size+m+1 by omega,deaf_succ abz,ih oN];have hy:=hu u[m] (Array.getElem_mem _);unfold deafStep;split
  .rename_i e;exact absurd e hy.1
  .rename_i e;exact absurd e hy.2
  rfl
theorem heard_new(hu:∀op∈u,oA op){m:Nat}{x:MemOp}(hx:u[m]?=some x)(hd:Deaf t x.g=0):(t++u).heard (t.size+m):=by
 have hm:m<u.size:=(ah.1 hx).1;refine⟨x.g,?_,?_⟩
 .rw[Trace.g?,Array.getElem?_append_right oN,tk,hx];rfl
 rw[VW hu m oN];exact hd
theorem Vo(hu:∀op∈u,oA op){k c n m m':Nat}{x y:MemOp}(hx:u[m]?=some x)(hy:u[m']?=some y)(OM:x.g=k)(xV:x.act=.send c n)(Ml:y.g=0)(hya:y.act=.recvDone c n)
  (NJ:Deaf t k=0) (hd0:Deaf t 0=0) {i:Nat} (h:Knows t k i):Knows (t++u) 0 i/\∃j,(t++u).g? j=some 0/\HappensBefore (t++u) i j:=by
 have hxp:(t++u)[t.size+m]?=some x:=by rw[Array.getElem?_append_right oN,tk,hx]
 have hyp:(t++u)[t.size+m']?=some y:=by rw[Array.getElem?_append_right oN,tk,hy]
 have h1:=h.hb_new oN hxp OM;have e:HappensBefore (t++u) (t.size+m) (t.size+m'):=.single (.inr ⟨.handOver (c:=c) (k:=n) (by rw[act?_of hxp,xV]) (by rw[act?_of hyp,hya]),heard_new hu hx (by rw[OM];exact NJ),heard_new hu hy (by rw[Ml];exact hd0)⟩);have h2:=h1.trans e;exact⟨⟨_,y,hyp,Ml,.inr h2⟩,_,by simp[Trace.g?,hyp,Ml],h2⟩
def Ja(k c n:Nat)(u:Trace):Prop:=∃f1 p1 f2 p2 f3 p3 f4 p4 cap,u = #[{ g:=k,fn:=f1,pos:=p1,act:=.send c n },{ g:=0,fn:=f2,pos:=p2,act:=.recv c n cap },{ g:=k,fn:=f3,pos:=p3,act:=.sendDone c n },{ g:=0,fn:=f4,pos:=p4,act:=.recvDone c n }]
theorem Ja.mute{k c n:Nat}(h:Ja k c n u)(hc:c<B'):∀op∈u,op.act.touch?=none/\oA op/\op.act.low B':=by
 obtain⟨f1,p1,f2,p2,f3,p3,f4,p4,cap,rfl⟩:=h;intro op hop;simp only[fe,cj,gX,or_false] at hop;rcases hop with rfl|rfl|rfl|rfl<;>exact⟨rfl,⟨sN,sN⟩,hc⟩
theorem PT.adM(h:PT A S O B t)(hB:B<=B'){k c n:Nat}(hu:Ja k c n u)(hc:c<B')(hk:A k)(hA:∀g,A' g↔A g\/False):PT A' S O B' (t++u):=
 h.appMute hB (hu.mute hc) (fun g hg=>((hA g).1 hg).resolve_right id) fun g hg hn=>absurd ((hA g).2 (.inl hg)) hn
theorem PT.Rk(h:PT A S O B t)(hB:B<=B'){k c n:Nat}(hu:Ja k c n u)(hc:c<B')(hk:A k):PT (fun g=>A g/\g≠k) S O B' (t++u):=by
 refine h.appMute hB (hu.mute hc) (fun g hg=>hg.1) fun g hg hn i hkn=>?_;have e:g=k:=Classical.byContradiction fun e=>hn ⟨hg,e⟩;subst e;have hw:=fun op hop=>(hu.mute hc op hop).2.1;have hd0:=h.hears;have NJ:=h.wy g hk;obtain⟨f1,p1,f2,p2,f3,p3,f4,p4,cap,rfl⟩:=hu;exact Vo hw (m:=0) (m':=3) rfl rfl rfl rfl rfl rfl NJ hd0 hkn
theorem PT.spawn(h:PT A S O B t)(hB:B<=B'){k:Nat}(hk:¬A k)(hk0:k≠0)(NJ:Deaf t k=0){x y:MemOp}(hx:x.g=0/\x.act=.go k)(hy:y.g=k/\y.act=.start){Sk:Nat->Prop}(hs:∀g,A g->∀c,Sk c->¬O g c) :
  PT (fun g=>A g\/g=k) (fun g=>if g=k then Sk else S g) (fun g=>if g=k then fun _=>False else O g) B' (t++#[x,y]):=by
 have hn:∀op∈#[x,y],op.act.touch?=none/\oA op/\op.act.low B':=by
  intro op hop;simp only[fe,cj,gX,or_false] at hop;rcases hop with rfl|rfl
  .rw[hx.2];exact⟨rfl,⟨by rw[hx.2];simp,by rw[hx.2];simp⟩,trivial⟩
  rw[hy.2];exact⟨rfl,⟨by rw[hy.2];simp,by rw[hy.2];simp⟩,trivial⟩
 have hn':=fun op hop=>(hn op hop).1;have h1:PT A S O B' (t++#[x,y]):=h.appMute hB hn (fun g hg=>hg) fun g hg hn=>absurd hg hn;have hne:∀g,A g->g≠k:=fun g hg e=>hk (e▸hg);refine⟨h1.clean,fun i a c ha hc=>?_,fun g hg i a c ha hc hs' hw=>?_,fun g hg i a c ha hc ho=>?_,fun i g e1 e2 e3=>(h1.over i g e1 e2 e3).imp id .inl,h1.hears,fun g hg=>?_,h1.seen,fun g hg=>?_⟩
 .rcases h1.known i a c ha hc with qT|⟨g,hg,OS,Fi⟩
  .exact .inl qT
  exact .inr ⟨g,.inl hg,OS,by simpa only[hne g hg,if_false] using Fi⟩
 .by_cases e:g=k
  .subst e;simp only[if_true] at hs';obtain⟨_,ha'⟩:=fH hn' ha;rcases h.known i a c ha' hc with qT|⟨g',Gs,_,Fi⟩
   .exact Go.ConcN.fork_knows hx hy h.hears NJ qT
   rcases Fi with ho|⟨hw',_⟩
   .exact absurd ho (hs g' Gs c hs')
   rw[hw] at hw';cases hw'
  simp only[e,if_false] at hs';exact h1.wk g (hg.resolve_right e) i a c ha hc hs' hw
 .by_cases e:g=k
  .simp only[e,if_true] at ho
  simp only[e,if_false] at ho;exact h1.ow g (hg.resolve_right e) i a c ha hc ho
 .rcases hg with hg|rfl
  .exact h1.wy g hg
  rw[iF _ _ _ fun op hop=>(hn op hop).2.1];exact NJ
 rcases hg with hg|rfl
 .exact h1.pos g hg
 exact hk0
end
section
variable{P:aN}
theorem FU(q:dQ){α:Type}(f:Nat->iT α)(n:Nat)(hn:0<n)(hq:q=.select n\/∃what,q=.extern what n)(w:ak):∃a d,a<n/\(AV q >>= f).run P w=(f a).run P (w.at d):=by
 have e:(AV q >>= f).run P w=if q.forced then(f 0).run P w else(f (q.cut (w.tape w.drawn q))).run P { w with drawn:=w.drawn+1 }:=rfl
 rw[e]
 by_cases hf:q.forced=true
 .exact⟨0,w.drawn,hn,by rw[if_pos hf];rfl⟩
 refine⟨_,w.drawn+1,?_,by rw[if_neg hf];rfl⟩;rcases hq with rfl|⟨what,rfl⟩
 .simp only[Question.cut];exact Nat.mod_lt _ hn
 simp only[Question.cut];rw[if_neg oN];exact Nat.mod_lt _ hn
def JE(ready:List (Nat × nj × List Way)):iT (Nat × nj × Way):=do
 let a <-AV (.select ready.length);let (k,c,ws):=ready.getD a (0,default,[])
 let b <-AV (.extern "which waiting goroutine is the partner" ws.length)
 pure (k,c,ws.getD b .closed)
theorem Uh(ready:List (Nat × nj × List Way))(hne:ready≠[])(hw:∀x∈ready,x.2.2≠[])(w:ak) :
  ∃x∈ready,∃y∈x.2.2,∃d,(JE ready).run P w=.ok (x.1,x.2.1,y) (w.at d):=by
 unfold JE
 obtain⟨a,d,ha,e⟩:=FU (P:=P) (.select ready.length) (fun a=>do
  let (k,c,ws):=ready.getD a (0,default,[])
  let b <-AV (.extern "which waiting goroutine is the partner" ws.length)
  pure (k,c,ws.getD b .closed)) ready.length (cN.2 hne) (.inl rfl) w
 rw[e];have hx:ready.getD a (0,default,[])=ready[a]:=by simp[List.getD,ha]
 rw[hx];have hmem:ready[a]∈ready:=bQ ha;generalize ready[a]=x at hmem;obtain⟨k,c,ws⟩:=x;have KO:=hw _ hmem;dsimp only at KO ⊢
 obtain⟨b,d',hb,e2⟩:=FU (P:=P) (.extern "which waiting goroutine is the partner" ws.length) (fun b=>(pure (k,c,ws.getD b .closed):iT (Nat × nj × Way))) ws.length (cN.2 KO) (.inr ⟨_,rfl⟩) (w.at d);refine⟨_,hmem,ws[b],bQ hb,d',?_⟩;rw[e2];have:ws.getD b .closed=ws[b]:=by simp[List.getD,hb]
 rw[this];rfl
variable{gs:Array aH}{w w₁:ak}{sl:Option (Nat × Nat)}{i:Nat}{g g₂:aH}{es:Array gO}{c0 c1 s0 r0 s1 r1:Nat}{t0 t1:Bool}{z0 z1:aj}
theorem tu{w:ak}{gs:Array aH}{c s r:Nat}{tm:Bool}{z:aj}(hc:w.heap[c]?=some (.chan 0 #[] false s r tm)):ways w gs (rcase c z)=(xM gs c true).map fun(h,k)=>Way.partner h k:=by
 simp only[ways,rcase,hc];cases xM gs c true with
 |nil=>simp
 |cons p ps=>simp
theorem Hh(hi:gs[i]?=some g)(h:fE P (i==0) g w=.comm g₂ #[rcase c0 z0,rcase c1 z1] true .select w₁ es)
  (h0:w₁.heap[c0]?=some (.chan 0 #[] false s0 r0 t0)) (h1:w₁.heap[c1]?=some (.chan 0 #[] false s1 r1 t1))
  (hne:xM (gs.setIfInBounds i ph) c0 true≠[]\/xM (gs.setIfInBounds i ph) c1 true≠[])
  (hall:∀c,c=c0\/c=c1->∀j k,(j,k)∈xM (gs.setIfInBounds i ph) c true->k=0/\j≠i/\∃gj vj zj shj,gs[j]?=some (iI gj #[nT c vj zj] shj)) :
  ∃(kk c s r:Nat) (tm:Bool) (j:Nat) (gj:aH) (vj zj:aj) (shj:CommShape) (d:Nat),((kk=0/\c=c0/\s=s0/\r=r0/\tm=t0)\/(kk=1/\c=c1/\s=s1/\r=r1/\tm=t1))/\j≠i/\gs[j]?=some (iI gj #[nT c vj zj] shj)/\
   runT P (crowd gs w sl) i=(.next (crowd ((gs.setIfInBounds j (gj.finishComm P #[nT c vj zj] shj 0 aw false)).setIfInBounds i (g₂.finishComm P #[rcase c0 z0,rcase c1 z1] .select kk vj true)) ((w₁.at d).setChan c 0 #[] false (s+1) (r+1) tm) sl),
    iJ i g.frame.fn g.frame.place es++#[{ g:=j,fn:=gj.frame.fn,pos:=gj.frame.place,act:=.send c s },{ g:=i,fn:=g₂.frame.fn,pos:=g₂.frame.place,act:=.recv c r 0 },
     { g:=j,fn:=gj.frame.fn,pos:=gj.frame.place,act:=.sendDone c s },{ g:=i,fn:=g₂.frame.fn,pos:=g₂.frame.place,act:=.recvDone c r }]):=by
 have hw0:=tu (gs:=gs.setIfInBounds i ph) (z:=z0) h0;have hw1:=tu (gs:=gs.setIfInBounds i ph) (z:=z1) h1;generalize hL:((#[rcase c0 z0,rcase c1 z1].zipIdx.toList.map fun(c,k)=>(k,c,ways w₁ (gs.setIfInBounds i ph) c)).filter fun(_,_,ws)=>!ws.isEmpty)=L
 have hmem:∀x,x∈L↔(x=(0,rcase c0 z0,ways w₁ (gs.setIfInBounds i ph) (rcase c0 z0))\/x=(1,rcase c1 z1,ways w₁ (gs.setIfInBounds i ph) (rcase c1 z1)))/\x.2.2≠[]:=by
  intro x;rw[<-hL];simp[List.mem_filter]
 have afK:L≠[]:=by
  intro e;rcases hne with hn|hn
  .have:=(hmem _).2 ⟨.inl rfl,by rw[hw0];simpa using hn⟩;rw[e] at this;cases this
  have:=(hmem _).2 ⟨.inr rfl,by rw[hw1];simpa using hn⟩;rw[e] at this;cases this
 obtain⟨x,hx,y,hy,d,ZO⟩:=Uh (P:=P) L afK (fun x hx=>((hmem x).1 hx).2) w₁
 have abt : #[rcase c0 z0,rcase c1 z1].any (illMade w₁)=false:=by
  refine any_ill fun cc hcc=>?_;simp only[fe,cj,gX,or_false] at hcc;rcases hcc with rfl|rfl
  .exact made_recv z0 h0
  exact made_recv z1 h1
 have key:∀(kk c s r:Nat) (tm:Bool) (z:aj),w₁.heap[c]?=some (.chan 0 #[] false s r tm)->(c=c0\/c=c1)->∀y,y∈((xM (gs.setIfInBounds i ph) c true).map fun(h,k)=>Way.partner h k)->(JE L).run P w₁=.ok (kk,rcase c z,y) (w₁.at d)->
   ∃(j:Nat) (gj:aH) (vj zj:aj) (shj:CommShape),j≠i/\gs[j]?=some (iI gj #[nT c vj zj] shj)/\
   runT P (crowd gs w sl) i=(.next (crowd ((gs.setIfInBounds j (gj.finishComm P #[nT c vj zj] shj 0 aw false)).setIfInBounds i (g₂.finishComm P #[rcase c0 z0,rcase c1 z1] .select kk vj true)) ((w₁.at d).setChan c 0 #[] false (s+1) (r+1) tm) sl),
    iJ i g.frame.fn g.frame.place es++#[{ g:=j,fn:=gj.frame.fn,pos:=gj.frame.place,act:=.send c s },{ g:=i,fn:=g₂.frame.fn,pos:=g₂.frame.place,act:=.recv c r 0 },
     { g:=j,fn:=gj.frame.fn,pos:=gj.frame.place,act:=.sendDone c s },{ g:=i,fn:=g₂.frame.fn,pos:=g₂.frame.place,act:=.recvDone c r }]):=by
  intro kk c s r tm z hc hcc y hy Gr;obtain⟨⟨j,k⟩,hjk,rfl⟩:=List.mem_map.1 hy;obtain⟨rfl,Vd,gj,vj,zj,shj,hj⟩:=hall c hcc j k hjk;refine⟨j,gj,vj,zj,shj,Vd,hj,?_⟩;have hj':=stand_get (i:=i) Vd hj;have hfp:=finishPartner_at P (gs.setIfInBounds i ph) hj' (cs:=#[nT c vj zj]) (sh:=shj) rfl 0 aw;have hgd:(gs.setIfInBounds i ph).getD j default=iI gj #[nT c vj zj] shj:=by rw[a_,hj'];rfl
  have jc:offeredValue (gs.setIfInBounds i ph) j 0=vj:=by simp[offeredValue,hj',iI,nT]
  rw[Go.Conc.runT_crowd_comm hi h];unfold communicate;unfold JE at Gr
  have hLe:L.isEmpty=false:=by cases L with
   |nil=>exact absurd rfl afK
   |cons a l=>rfl
  simp only[hL,hLe,bG,if_false,Gr];have hcd:(w₁.at d).heap[c]?=some (.chan 0 #[] false s r tm):=hc;rw[if_neg]
  .simp[rcase,hcd,hfp,hgd,jc,set_stand2,nT,iI,World.setChan,crowd];rfl
  rw[Bool.not_eq_true];exact abt
 rcases((hmem x).1 hx).1 with rfl|rfl
 .obtain⟨j,gj,vj,zj,shj,h5,h6,h7⟩:=key 0 c0 s0 r0 t0 z0 h0 (.inl rfl) y (by rw[<-hw0];exact hy) ZO;exact⟨0,c0,s0,r0,t0,j,gj,vj,zj,shj,d,.inl ⟨rfl,rfl,rfl,rfl,rfl⟩,h5,h6,h7⟩
 obtain⟨j,gj,vj,zj,shj,h5,h6,h7⟩:=key 1 c1 s1 r1 t1 z1 h1 (.inr rfl) y (by rw[<-hw1];exact hy) ZO;exact⟨1,c1,s1,r1,t1,j,gj,vj,zj,shj,d,.inr ⟨rfl,rfl,rfl,rfl,rfl⟩,h5,h6,h7⟩
end
inductive pD{α:Type}(R:α->α->Prop):List α->List α->Prop
 |nil:pD R [] []
 |cons {x y:α} {l m:List α}:R x y->pD R l m->pD R (x::l) (y::m)
inductive LT{α:Type}(D E:α->α->Prop):List α->List α->Prop
 |drop {x:α} {l l':List α}:pD E l' l->LT D E l' (x::l)
 |head {x x':α} {l l':List α}:D x' x->pD E l' l->LT D E (x'::l') (x::l)
 |tail {x x':α} {l l':List α}:E x' x->LT D E l' l->LT D E (x'::l') (x::l)
section
variable{α:Type}{D E:α->α->Prop}
theorem pD.refl(hr:∀x,E x x):∀l,pD E l l
 |[]=>.nil
 |x::l=>.cons (hr x) (pD.refl hr l)
theorem pD.trans(ht:∀x y z,E x y->E y z->E x z){a b c:List α}(h:pD E a b):pD E b c->pD E a c:=by
 induction h generalizing c with
 |nil=>intro h;exact h
 |cons h1 _ ih=>intro h2;cases h2 with|cons h3 h4=>exact .cons (ht _ _ _ h1 h3) (ih h4)
theorem LT.shift(ht:∀x y z,E x y->E y z->E x z)(hd:∀x y z,D x y->E y z->D x z){a b c:List α}(h:LT D E a b):pD E b c->LT D E a c:=by
 induction h generalizing c with
 |drop h=>intro h2;cases h2 with|cons h3 h4=>exact .drop (h.trans ht h4)
 |head h1 h=>intro h2;cases h2 with|cons h3 h4=>exact .head (hd _ _ _ h1 h3) (h.trans ht h4)
 |tail h1 _ ih=>intro h2;cases h2 with|cons h3 h4=>exact .tail (ht _ _ _ h1 h3) (ih h4)
theorem BW(ht:∀x y z,E x y->E y z->E x z)(hd:∀x y z,D x y->E y z->D x z){l l':List α}(h:Acc (LT D E) l)(he:pD E l' l):Acc (LT D E) l':=
 ⟨_,fun m hm=>h.inv (hm.shift ht hd he)⟩
theorem Gf(hr:∀x,E x x)(ht:∀x y z,E x y->E y z->E x z)(hd:∀x y z,D x y->E y z->D x z):∀l:List α,(∀x∈l,Acc D x)->Acc (LT D E) l
 |[],_=>⟨_,fun m hm=>by cases hm⟩
 |x::l,h=>by
  have hx:=h x sN;have hl:=Gf hr ht hd l fun y hy=>h y (by simp[hy]);clear h
  induction hx generalizing l with
  |intro x _ ihx=>
   induction hl with
   |intro l hl ihl=>
    refine⟨_,fun m hm=>?_⟩;have yL:Acc (LT D E) l:=⟨_,hl⟩
    cases hm with
    |drop h=>exact BW ht hd yL h
    |head h1 h2=>exact ihx _ h1 _ (BW ht hd yL h2)
    |tail h1 h2=>exact BW ht hd (ihl _ h2) (.cons h1 (.refl hr _))
theorem pD.of_map{f:α->α}(h:∀x,E (f x) x):∀l:List α,pD E (l.map f) l
 |[]=>.nil
 |x::l=>.cons (h x) (pD.of_map h l)
theorem LT.mid{f:α->α}(h:∀x,E (f x) x){x x':α}(hd:D x' x)(l2:List α):∀l1:List α,LT D E (l1.map f++x'::l2.map f) (l1++x::l2)
 |[]=>.head hd (.of_map h l2)
 |y::l=>.tail (h y) (LT.mid h hd l2 l)
end
section
variable(P:aN)(c0 c1:Nat)
def zS:Value:=.tuple #[]
def AtSend(c:Nat)(v:aj)(g:aH):Prop:=g.status=.running/\g.dying=none/\g.offers=none/\∀w,fE P false g w=.comm g #[nT c v zS] true .send w #[]
inductive ig(S:Nat->Prop)(p:aj):Bool->(Nat->Prop)->aH->ak->Prop
 |step {b:Bool} {O:Nat->Prop} {g:aH} {w:ak}:g.status=.running->g.dying=none->
   (∀w1,iV (fun c=>S c\/O c) w w1->∃g2 w2 es,fE P false g w1=.go g2 w2 es/\KJ S O w1 w2 es/\g2.status=.running/\g2.dying=none)->
   (∀w1,iV (fun c=>S c\/O c) w w1->∀g2 w2 es,fE P false g w1=.go g2 w2 es->ig S p b (own O w1 w2) g2 w2)->ig S p b O g w
 |Cr {O:Nat->Prop} {g:aH} {w:ak}:AtSend P c0 p g->ig S p false O (fF g aw) w->ig S p true O g w
 |Cq {O:Nat->Prop} {g:aH} {w:ak} {n:Nat}:AtSend P c1 (.bool true) g->QuitsD P n 0 (fF g aw)->ig S p false O g w
theorem ig.rely{S:Nat->Prop}{p:aj}{b:Bool}{O:Nat->Prop}{g:aH}{w:ak}(h:ig P c0 c1 S p b O g w):∀ {w1:ak},iV (fun c=>S c\/O c) w w1->ig P c0 c1 S p b O g w1:=by
 induction h with
 |step a b c d _=>intro w1 hr;exact .step a b (fun w2 h2=>c w2 (hr.trans h2)) fun w2 h2=>d w2 (hr.trans h2)
 |Cr h _ ih=>intro w1 hr;exact .Cr h (ih hr)
 |Cq h hq=>intro w1 hr;exact .Cq h hq
theorem ig.JK{S:Nat->Prop}{p:aj}{b:Bool}{Stop:(Nat->Prop)->aH->ak->Prop}{O:Nat->Prop}{g:aH}{w:ak}(h:Walk P false S Stop O g w)(k:∀O g w,Stop O g w->ig P c0 c1 S p b O g w):ig P c0 c1 S p b O g w:=by
 induction h with
 |@stop O g w h=>exact k _ _ _ (h w (.refl _ _))
 |step a b c d ih=>exact .step a b c ih
structure X where
 id:Nat
 S:Nat->Prop
 p:aj
 b:Bool
 O:Nat->Prop
 g:aH
 w:ak
def X.at(w:ak)(x:X):X:={ x with w:=w }
inductive WS:X->Prop
 |run {x:X}:ig P c0 c1 x.S x.p x.b x.O x.g x.w->WS x
 |uP {x:X} {g:aH}:x.b=true->AtSend P c0 x.p g->ig P c0 c1 x.S x.p false x.O (fF g aw) x.w->x.g=iI g #[nT c0 x.p zS] .send->WS x
 |uO {x:X} {g:aH} {n:Nat}:x.b=false->AtSend P c1 (.bool true) g->QuitsD P n 0 (fF g aw)->x.g=iI g #[nT c1 (.bool true) zS] .send->WS x
def Sh(x' x:X):Prop:=∃w,iV (fun c=>x.S c\/x.O c) x.w w/\x'=x.at w
inductive Dn:X->X->Prop
 |step {x x':X} {w1 w2:ak} {g2:aH} {es:Array gO}:x.g.status=.running->iV (fun c=>x.S c\/x.O c) x.w w1->fE P false x.g w1=.go g2 w2 es->Sh x' { x with O:=own x.O w1 w2,g:=g2,w:=w2 }->Dn x' x
 |zJ {x x':X} {c:Nat} {v:aj}:AtSend P c v x.g->Sh x' { x with g:=iI x.g #[nT c v zS] .send }->Dn x' x
 |aM {x x':X} {g:aH}:x.b=true->AtSend P c0 x.p g->(x.g=g\/x.g=iI g #[nT c0 x.p zS] .send)->Sh x' { x with b:=false,g:=fF g aw }->Dn x' x
theorem mV(x:X):Sh x x:=⟨x.w,.refl _ _,rfl⟩
theorem oT(x y z:X)(h:Sh x y)(h':Sh y z):Sh x z:=by
 obtain⟨w,hr,rfl⟩:=h;obtain⟨w',hr',rfl⟩:=h';exact⟨w,hr'.trans hr,rfl⟩
theorem FH(x y z:X)(h:Dn P c0 x y)(h':Sh y z):Dn P c0 x z:=by
 obtain⟨w,hr,rfl⟩:=h';cases h with
 |step h1 h2 h3 h4=>exact .step h1 (hr.trans h2) h3 h4
 |zJ h1 h2=>
  obtain⟨w2,hr2,rfl⟩:=h2;exact .zJ h1 ⟨w2,hr.trans hr2,rfl⟩
 |aM h1 h2 h3 h4=>
  obtain⟨w2,hr2,rfl⟩:=h4;exact .aM h1 h2 h3 ⟨w2,hr.trans hr2,rfl⟩
theorem Gg{x x':X}(h:Acc (Dn P c0) x)(he:Sh x' x):Acc (Dn P c0) x':=⟨_,fun y hy=>h.inv (FH P c0 _ _ _ hy he)⟩
theorem sT{c c':Nat}{v v':aj}{g:aH}{cs:Array nj}{sh:CommShape}(h:AtSend P c v (iI g cs sh)):False:=by cases h.1
theorem BV{S:Nat->Prop}{p:aj}{b:Bool}{O:Nat->Prop}{g:aH}{w:ak}(h:ig P c0 c1 S p b O g w)(id:Nat):Acc (Dn P c0) ⟨id,S,p,b,O,g,w⟩:=by
 induction h with
 |@step b O g w hr hd hc hk ih=>
  refine⟨_,fun y hy=>?_⟩;obtain⟨g2,w2,es,he,_⟩:=hc w (.refl _ _);cases hy with
  |step h1 h2 h3 h4=>exact Gg P c0 (ih _ h2 _ _ _ h3) h4
  |zJ h1 h2=>have:=h1.2.2.2 w;dsimp only at this;rw[he] at this;cases this
  |aM h1 h2 h3 h4=>
   rcases h3 with h3|h3
   .dsimp only at h3;subst h3;have:=h2.2.2.2 w;rw[he] at this;cases this
   dsimp only at h3;subst h3;cases hr
 |@Cr O g w ha _ ih=>
  have hp:Acc (Dn P c0) ⟨id,S,p,true,O,iI g #[nT c0 p zS] .send,w⟩:=by
   refine⟨_,fun y hy=>?_⟩;cases hy with
   |step h1 _ _ _=>cases h1
   |zJ h1 _=>exact(sT P (c':=0) (v':=p) h1).elim
   |@aM _ _ g0 h1 h2 h3 h4=>
    rcases h3 with h3|h3
    .dsimp only at h3;rw[<-h3] at h2;exact(sT P (c':=0) (v':=p) h2).elim
    dsimp only at h3
    have e:g=g0:=by
     have e1:g.frame=g0.frame:=by have:=congrArg Goroutine.frame h3;exact this
     have e2:g.callers=g0.callers:=by have:=congrArg Goroutine.callers h3;exact this
     have e3:=ha.1;have e4:=h2.1;have e5:=ha.2.1;have e6:=h2.2.1;have e7:=ha.2.2.1;have e8:=h2.2.2.1;cases g;cases g0;simp_all
    subst e;exact Gg P c0 ih h4
  refine⟨_,fun y hy=>?_⟩;cases hy with
  |step h1 h2 h3 h4=>dsimp only at h3;rw[ha.2.2.2] at h3;cases h3
  |@zJ _ _ c v h1 h2=>
   have e:=h1.2.2.2 w;dsimp only at e;rw[ha.2.2.2 w] at e;injection e with e1 e2
   have e3:nT c0 p zS=nT c v zS:=by injection e2 with e2;injection e2
   rw[<-e3] at h2;exact Gg P c0 hp h2
  |aM h1 h2 h3 h4=>
   rcases h3 with h3|h3
   .dsimp only at h3;subst h3;exact Gg P c0 ih h4
   dsimp only at h3;subst h3;cases ha.1
 |@Cq O g w n ha hq=>
  have hp:Acc (Dn P c0) ⟨id,S,p,false,O,iI g #[nT c1 (.bool true) zS] .send,w⟩:=by
   refine⟨_,fun y hy=>?_⟩;cases hy with
   |step h1 _ _ _=>cases h1
   |zJ h1 _=>exact(sT P (c':=0) (v':=p) h1).elim
   |aM h1 _ _ _=>cases h1
  refine⟨_,fun y hy=>?_⟩;cases hy with
  |step h1 h2 h3 h4=>dsimp only at h3;rw[ha.2.2.2] at h3;cases h3
  |@zJ _ _ c v h1 h2=>
   have e:=h1.2.2.2 w;dsimp only at e;rw[ha.2.2.2 w] at e;injection e with e1 e2
   have e3:nT c1 (.bool true) zS=nT c v zS:=by injection e2 with e2;injection e2
   rw[<-e3] at h2;exact Gg P c0 hp h2
  |aM h1 _ _ _=>cases h1
end
end Go.Lag
