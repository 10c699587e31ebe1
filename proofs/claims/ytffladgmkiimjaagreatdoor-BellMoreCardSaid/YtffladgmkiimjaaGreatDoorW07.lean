/- TWO RUNS OF ONE PROGRAM TEXT WHOSE NEW BLOCKS LIE AT OTHER PLACES: the .. -/
import Derived.Test.YtffladgmkiimjaaGreatDoorW06
import Derived.Conc.CrowdSel
set_option linter.all false
set_option maxHeartbeats 0
set_option maxRecDepth 1000000
open Array renaming mem_append -> IJ,getElem?_setIfInBounds_ne -> aB,getElem?_eq_getElem -> aN,getD_eq_getD_getElem? -> aZ,getElem?_eq_some_iff -> ag,getElem?_setIfInBounds -> bD,getElem?_setIfInBounds_self_of_lt -> bg,replicate -> bz,mem_of_getElem? -> fB,empty_append -> fD,all_eq_true' -> kG,getElem?_push -> lS,mapM_eq_mapM_toList -> qg,getElem?_modify -> qs,toList_map -> xr
open Bool renaming and_eq_true -> aI,false_eq_true -> bF
open Go renaming choose -> Bp,Goroutine -> aC,Program -> aK,TypeId -> aV,Value -> ai,World -> ak,undef -> au,Operand -> bI,Frame -> bY,execOp -> cC,Question -> dV,Addr -> dc,runtimePanic -> eO,FuncId -> en,stepG -> fE,Event -> gO,Sem -> iZ,zeroValue -> jl,underlying -> jr,CallKind -> kC,typeInfo -> lG,unwind -> mM,CommCase -> nA,Item -> qq,unsupported -> rY,doReturn -> vw,MapEntry -> vx,behindNumber -> wh,partners -> yi
open Go.Builtin renaming lenOf -> Ev,firstCells -> eU,zeroCells -> f_,append_ -> kO,mayShare -> qL
open Go.Conc renaming served -> fG,getElem?_append_cases -> iI,parked -> iP,solo_eq_crowd -> n_,scase -> og
open Go.Frame renaming enter -> eL
open Go.GStep renaming after -> CR
open Go.Instr renaming mapUpdate -> BF,findKey -> Eu,indexAt -> eX,findAsking -> jH,index -> nw,checkKey -> ou,loadAt -> wy
open Go.MemOp renaming ofEvents -> iQ
open Go.Mode renaming plain -> m5
open Go.Sem renaming runT_bind' -> IC,runT -> dO
open Go.World renaming setCell -> kJ
open Go.stepG renaming exec -> cM,apply -> eH,oper -> fC
open List renaming mem_cons -> bQ,getElem_mem -> bS,length_pos_iff -> dB,all_cons -> ej,mem_toArray -> fp,cons_append -> fq,not_mem_nil -> g_
open Nat renaming le_trans -> aG,le_refl -> aJ,add_sub_cancel_left -> tS
open Option renaming map_some -> dK,map_eq_some_iff -> eW,bind_some -> gZ
open Option.some renaming injEq -> ia
open Pure renaming pure -> fo
namespace Go.Lag
open Go.Conc
abbrev Rn:=Nat->Option Nat
def Rn.le(U U':Rn):Prop:=∀b c,U b=some c->U' b=some c
def Rn.le_refl(U:Rn):Rn.le U U:=fun _ _ h=>h
def Rn.le_trans{U U' U'':Rn}(h:Rn.le U U')(h':Rn.le U' U''):Rn.le U U'':=fun b c e=>h' b c (h b c e)
structure AR(U:Rn)(a a':dc):Prop where
 block:U a.block=some a'.block
 off:a'.off=a.off
 spot:a'.spot=a.spot
def AR.mono{U U':Rn}{a a':dc}(h:AR U a a')(hl:Rn.le U U'):AR U' a a':=⟨hl _ _ h.block,h.off,h.spot⟩
def AR.add{U:Rn}{a a':dc}(h:AR U a a')(n:Nat):AR U (a.add n) (a'.add n):=by
 unfold Addr.add;split
 .exact h
 exact⟨h.block,by simp[h.off],rfl⟩
def AR.at{U:Rn}{a a':dc}(h:AR U a a')(off:Nat):AR U { a with off } { a' with off }:=⟨h.block,rfl,h.spot⟩
inductive VR(F:Nat->Bool)(U:Rn):ai->ai->Prop
 |bool (b:Bool):VR F U (.bool b) (.bool b)
 |int (k:IntKind) (n:Int):VR F U (.int k n) (.int k n)
 |string (s:ByteArray):VR F U (.string s) (.string s)
 |D9:VR F U (.pointer none) (.pointer none)
 |ptr {a a':dc}:AR U a a'->VR F U (.pointer (some a)) (.pointer (some a'))
 |FI (l c:Nat):VR F U (.slice none l c) (.slice none l c)
 |slice {a a':dc} (l c:Nat):AR U a a'->VR F U (.slice (some a) l c) (.slice (some a') l c)
 |YM:VR F U (.map none) (.map none)
 |map {r r':Nat}:U r=some r'->VR F U (.map (some r)) (.map (some r'))
 |chan (r:Option Nat):VR F U (.chan r) (.chan r)
 |func {f:en} {fs fs' cs cs':Array ai}:F f=true->fs.size=fs'.size->(∀(i:Nat) (x y:ai),fs[i]?=some x->fs'[i]?=some y->VR F U x y)->
   cs.size=cs'.size->(∀(i:Nat) (x y:ai),cs[i]?=some x->cs'[i]?=some y->VR F U x y)->VR F U (.func (.func f) fs cs) (.func (.func f) fs' cs')
 |YN:VR F U .nilFunc .nilFunc
 |agg {cs cs':Array ai}:cs.size=cs'.size->(∀(i:Nat) (x y:ai),cs[i]?=some x->cs'[i]?=some y->VR F U x y)->VR F U (.agg cs) (.agg cs')
 |tuple {cs cs':Array ai}:cs.size=cs'.size->(∀(i:Nat) (x y:ai),cs[i]?=some x->cs'[i]?=some y->VR F U x y)->VR F U (.tuple cs) (.tuple cs')
structure jg(F:Nat->Bool)(U:Rn)(cs cs':Array ai):Prop where
 size:cs.size=cs'.size
 at_:∀(i:Nat) (x y:ai),cs[i]?=some x->cs'[i]?=some y->VR F U x y
section
variable{F:Nat->Bool}{U U':Rn}
theorem VR.mono{v v':ai}(h:VR F U v v')(hl:Rn.le U U'):VR F U' v v':=by
 induction h with
 |bool b=>exact .bool b
 |int k n=>exact .int k n
 |string s=>exact .string s
 |D9=>exact .D9
 |ptr h=>exact .ptr (h.mono hl)
 |FI l c=>exact .FI l c
 |slice l c h=>exact .slice l c (h.mono hl)
 |YM=>exact .YM
 |map h=>exact .map (hl _ _ h)
 |chan r=>exact .chan r
 |func hf h1 h2 h3 h4 ih1 ih2=>exact .func hf h1 ih1 h3 ih2
 |YN=>exact .YN
 |agg h1 h2 ih=>exact .agg h1 ih
 |tuple h1 h2 ih=>exact .tuple h1 ih
theorem jg.mono{cs cs':Array ai}(h:jg F U cs cs')(hl:Rn.le U U'):jg F U' cs cs':=⟨h.size,fun i x y h1 h2=>(h.at_ i x y h1 h2).mono hl⟩
theorem jg.agg{cs cs':Array ai}(h:jg F U cs cs'):VR F U (.agg cs) (.agg cs'):=.agg h.size h.at_
theorem jg.tuple{cs cs':Array ai}(h:jg F U cs cs'):VR F U (.tuple cs) (.tuple cs'):=.tuple h.size h.at_
theorem jg.get{cs cs':Array ai}(h:jg F U cs cs'){i:Nat}{x:ai}(hx:cs[i]?=some x):∃y,cs'[i]?=some y/\VR F U x y:=by
 have hi:i<cs.size:=(ag.1 hx).1;have hi':i<cs'.size:=h.size▸hi;exact⟨cs'[i],aN hi',h.at_ i x _ hx (aN hi')⟩
theorem jg.none{cs cs':Array ai}(h:jg F U cs cs'){i:Nat}(hx:cs[i]?=none):cs'[i]?=none:=by
 rw[Array.getElem?_eq_none_iff] at hx ⊢;rw[<-h.size];exact hx
theorem jg.nil:jg F U #[] #[]:=⟨rfl,fun i x y h=>by simp at h⟩
theorem jg.append{a a' b b':Array ai}(h:jg F U a a')(h':jg F U b b'):jg F U (a++b) (a'++b'):=by
 refine⟨by simp[h.size,h'.size],fun i x y h1 h2=>?_⟩;rw[Array.getElem?_append] at h1 h2;rw[<-h.size] at h2;split at h1
 .rename_i hi;simp only[hi,if_true] at h2;exact h.at_ _ _ _ h1 h2
 rename_i hi;simp only[hi,if_false] at h2;exact h'.at_ _ _ _ h1 h2
theorem jg.push{a a':Array ai}{v v':ai}(h:jg F U a a')(h':VR F U v v'):jg F U (a.push v) (a'.push v'):=by
 refine⟨by simp[h.size],fun i x y h1 h2=>?_⟩;rw[lS] at h1 h2;rw[<-h.size] at h2;split at h1
 .rename_i hi;simp only[hi,if_true] at h2;cases h1;cases h2;exact h'
 rename_i hi;simp only[hi,if_false] at h2;exact h.at_ _ _ _ h1 h2
theorem jg.one{v v':ai}(h:VR F U v v'):jg F U #[v] #[v']:=jg.nil.push h
theorem jg.extract{a a':Array ai}(h:jg F U a a')(i j:Nat):jg F U (a.extract i j) (a'.extract i j):=by
 refine⟨by simp[h.size],fun k x y h1 h2=>?_⟩;rw[Array.getElem?_extract] at h1 h2;rw[<-h.size] at h2;split at h1
 .rename_i hi;simp only[hi,if_true] at h2;exact h.at_ _ _ _ h1 h2
 cases h1
theorem jg.set{a a':Array ai}{v v':ai}(h:jg F U a a')(h':VR F U v v')(i:Nat):jg F U (a.setIfInBounds i v) (a'.setIfInBounds i v'):=by
 refine⟨by simp[h.size],fun k x y h1 h2=>?_⟩;rw[bD] at h1 h2;split at h1
 .rename_i hi;simp only[hi,if_true] at h2;split at h1
  .rename_i hl;rw[if_pos (by rw[<-h.size];omega)] at h2;cases h1;cases h2;exact h'
  cases h1
 rename_i hi;simp only[hi,if_false] at h2;exact h.at_ _ _ _ h1 h2
theorem jg.replicate{v v':ai}(h:VR F U v v')(n:Nat):jg F U (bz n v) (bz n v'):=by
 refine⟨sN,fun k x y h1 h2=>?_⟩;rw[Array.getElem?_replicate] at h1 h2
 by_cases hi:k<n
 .rw[if_pos hi] at h1 h2;cases h1;cases h2;exact h
 rw[if_neg hi] at h1;cases h1
theorem jg.getD{a a':Array ai}{v v':ai}(h:jg F U a a')(h':VR F U v v')(i:Nat):VR F U (a.getD i v) (a'.getD i v'):=by
 rw[aZ,aZ];cases hx:a[i]? with
 |none=>rw[h.none hx];exact h'
 |some x=>
  obtain⟨y,hy,hv⟩:=h.get hx;rw[hy];exact hv
theorem jg.map{α:Type}{l:Array α}{f g:α->ai}(h:∀x∈l,VR F U (f x) (g x)):jg F U (l.map f) (l.map g):=by
 refine⟨sN,fun k x y h1 h2=>?_⟩;simp only[Array.getElem?_map] at h1 h2;cases hk:l[k]? with
 |none=>rw[hk] at h1;cases h1
 |some z=>
  rw[hk] at h1 h2;cases h1;cases h2;exact h z (fB hk)
theorem uO:VR F U au undef:=jg.nil.tuple
theorem VR.cells{v v':ai}(h:VR F U v v'):jg F U v.cells v'.cells:=by
 cases h with
 |agg h1 h2=>exact⟨h1,h2⟩
 |bool b=>exact .one (.bool b)
 |int k n=>exact .one (.int k n)
 |string s=>exact .one (.string s)
 |D9=>exact .one .D9
 |ptr h=>exact .one (.ptr h)
 |FI l c=>exact .one (.FI l c)
 |slice l c h=>exact .one (.slice l c h)
 |YM=>exact .one .YM
 |map h=>exact .one (.map h)
 |chan r=>exact .one (.chan r)
 |func hf h1 h2 h3 h4=>exact .one (.func hf h1 h2 h3 h4)
 |YN=>exact .one .YN
 |tuple h1 h2=>exact .one (.tuple h1 h2)
def AO:ai->Bool
 |.bool _|.int ..|.string _|.pointer none|.slice none _ _|.map none|.chan _|.nilFunc=>true
 |_=>false
def Ge:ai->Bool
 |.agg cs=>cs.all AO
 |.tuple cs=>cs.all AO
 |v=>AO v
theorem Nu{v:ai}(h:AO v=true):VR F U v v:=by
 unfold AO at h;split at h
 all_goals first|cases h;done|constructor
theorem aaN{cs:Array ai}(h:cs.all AO=true):jg F U cs cs:=⟨rfl,fun i x y h1 h2=>by
 rw[h1] at h2;cases h2
 exact Nu (kG.1 h x (fB h1))⟩
theorem AL{v:ai}(h:Ge v=true):VR F U v v:=by
 unfold Ge at h;split at h
 .exact(aaN h).agg
 .exact(aaN h).tuple
 exact Nu h
end
structure MER(F:Nat->Bool)(U:Rn)(x y:vx):Prop where
 key:VR F U x.key y.key
 val:VR F U x.val y.val
 born:x.born=y.born
inductive OR(F:Nat->Bool)(U:Rn):Obj->Obj->Prop
 |cells {cs cs':Array ai} {e:aV} {z z':Nat × Nat}:jg F U cs cs'->(∀i,z'.1<=i->i<z'.2->z.1<=i/\i<z.2)->OR F U (.cells cs e z) (.cells cs' e z')
 |map {es es':Array vx} {k:Nat}:es.size=es'.size->(∀(i:Nat) (x y:vx),es[i]?=some x->es'[i]?=some y->MER F U x y)->OR F U (.map es k) (.map es' k)
 |number {a a':dc} (l:Bool):AR U a a'->OR F U (.number a l) (.number a' l)
def OR.Kj{F:Nat->Bool}{U:Rn}{o o':Obj}(h:OR F U o o'):o.isChan=false:=by cases h<;>rfl
def OR.mono{F:Nat->Bool}{U U':Rn}{o o':Obj}(h:OR F U o o')(hl:Rn.le U U'):OR F U' o o':=by
 cases h with
 |cells h1 h2=>exact .cells (h1.mono hl) h2
 |map h1 h2=>exact .map h1 fun i x y a b=>⟨(h2 i x y a b).key.mono hl,(h2 i x y a b).val.mono hl,(h2 i x y a b).born⟩
 |number l h=>exact .number l (h.mono hl)
structure WR(F:Nat->Bool)(G:Nat)(B:Nat->Prop)(U:Rn)(lw w:ak):Prop where
 inj:∀a b c,U a=some c->U b=some c->a=b
 low:∀b c,U b=some c->G<=b/\G<=c
 base:∀b,B b->b<lw.heap.size
 at_:∀b c,U b=some c->∃o o',lw.heap[b]?=some o/\w.heap[c]?=some o'/\OR F U o o'/\(B b->∃cs e n,o=.cells cs e (0,n)/\cs.size<=n)
 Kj:∀(b:Nat) (o:Obj),lw.heap[b]?=some o->o.isChan=false
def Hd:Halt->Prop
 |.panic _|.stuck _=>True
 |.unsupported (.initOrder _)=>False
 |.unsupported _=>True
 |_=>False
section
variable{F:Nat->Bool}{G:Nat}{B:Nat->Prop}{U:Rn}{lw w:ak}
theorem WR.cell(h:WR F G B U lw w){a a':dc}(ha:AR U a a'){v:ai}(hv:lw.cell? a=some v):∃v',w.cell? a'=some v'/\VR F U v v':=by
 obtain⟨o,o',h1,h2,h3,_⟩:=h.at_ _ _ ha.block;unfold World.cell? at hv ⊢;rw[h1] at hv;rw[h2];cases h3 with
 |map _ _=>cases hv
 |number _ _=>cases hv
 |cells hc hz=>
  simp only at hv ⊢;rw[ha.spot,ha.off];split at hv
  .cases hv
  rename_i hs;rw[if_neg hs];exact hc.get hv
theorem WR.noCell(h:WR F G B U lw w){P:aK}{a a':dc}(ha:AR U a a')(hv:lw.cell? a=none){b:Bool}:∃e,lw.farLoad P a b=.error e/\Hd e:=by
 obtain⟨o,o',h1,h2,h3,_⟩:=h.at_ _ _ ha.block;unfold World.farLoad World.noCell;rw[h1];cases h3 with
 |map _ _=>exact⟨_,rfl,trivial⟩
 |number _ _=>exact⟨_,rfl,trivial⟩
 |cells hc hz=>exact⟨_,rfl,trivial⟩
theorem WR.YL(h:WR F G B U lw w){P:aK}{a a':dc}(ha:AR U a a')(hv:lw.cell? a=none){b:Bool}{v:ai}:∃e,lw.farStore P a v b=.error e/\Hd e:=by
 obtain⟨o,o',h1,h2,h3,_⟩:=h.at_ _ _ ha.block;unfold World.farStore World.noCell;rw[h1];cases h3 with
 |map _ _=>exact⟨_,rfl,trivial⟩
 |number _ _=>exact⟨_,rfl,trivial⟩
 |cells hc hz=>exact⟨_,rfl,trivial⟩
theorem WR.shape(h:WR F G B U lw w){r r':Nat}(hr:U r=some r'):w.shape? r'=lw.shape? r:=by
 obtain⟨o,o',h1,h2,h3,_⟩:=h.at_ _ _ hr;unfold World.shape?;rw[h1,h2];cases h3 with
 |map _ _=>rfl
 |number _ _=>rfl
 |cells hc hz=>simp[hc.size]
theorem WR.tape(h:WR F G B U lw w)(I I':Nat->dV->Nat)(d d':Nat):WR F G B U (dR lw I d) (dR w I' d'):=⟨h.inj,h.low,h.base,h.at_,h.Kj⟩
theorem WR.turn(h:WR F G B U lw w){b c:Nat}(hb:U b=some c)(hB:¬B b){o o':Obj}(ho:OR F U o o'){eP w':ak}(h1:eP.heap=lw.heap.setIfInBounds b o)(h2:w'.heap=w.heap.setIfInBounds c o'):WR F G B U eP w':=by
 refine⟨h.inj,h.low,fun x hx=>by rw[h1];simpa using h.base x hx,fun x y hx=>?_,fun x y hx=>?_⟩
 rotate_left
 .rw[h1] at hx
  by_cases hxb:b=x
  .subst hxb;rcases Nat.lt_or_ge b lw.heap.size with hl|hl
   .rw[bg hl] at hx;cases hx;exact ho.Kj
   rw[Array.getElem?_eq_none (by simpa using hl)] at hx;cases hx
  rw[aB hxb] at hx;exact h.Kj _ _ hx
 rw[h1,h2];obtain⟨p,p',e1,e2,e3,e4⟩:=h.at_ x y hx
 by_cases hxb:b=x
 .subst hxb;have:c=y:=by rw[hb] at hx;exact Option.some.inj hx
  subst this;refine⟨o,o',?_,?_,ho,fun hlt=>absurd hlt hB⟩
  .rw[bg (eY e1)]
  rw[bg (eY e2)]
 have hyc:c≠y:=fun hc=>hxb (h.inj b x c hb (hc▸hx));rw[aB hxb,aB hyc];exact⟨p,p',e1,e2,e3,e4⟩
theorem zY{w:ak}{a:dc}{v:ai}{cs:Array ai}{e:aV}{z:Nat × Nat}(h:w.heap[a.block]?=some (.cells cs e z)) :
  (w.setCell a v).heap=w.heap.setIfInBounds a.block (.cells (if a.spot.isSome then cs else cs.setIfInBounds a.off v) e z):=by
 apply Array.ext_getElem?;intro j;simp only[kJ];rw[qs,bD];split
 .rename_i VY;subst VY;rw[h,if_pos (eY h)];rfl
 rfl
theorem WR.setCell(h:WR F G B U lw w){a a':dc}(ha:AR U a a'){v v' x:ai}(hv:VR F U v v')(hc:lw.cell? a=some x)(hz:lw.frozen? a=false) :
  ¬B a.block/\w.frozen? a'=false/\WR F G B U (lw.setCell a v) (w.setCell a' v'):=by
 obtain⟨o,o',h1,h2,h3,h4⟩:=h.at_ _ _ ha.block;unfold World.cell? at hc;unfold World.frozen? at hz ⊢;rw[h1] at hc hz;rw[h2];cases h3 with
 |map _ _=>cases hc
 |number _ _=>cases hc
 |@cells cs cs' e z z' hcs hfz=>
  simp only at hc hz ⊢
  have ai1:cs[a.off]?=some x:=by
   split at hc
   .cases hc
   exact hc
  have hB:¬B a.block:=by
   intro hlt;obtain⟨cs1,e1,n,he,hn⟩:=h4 hlt;injection he with he1 he2 he3
   subst he1;subst he3;have:=(ag.1 ai1).1;have h5:a.off<n:=oN;simp[h5] at hz
  refine⟨hB,?_,?_⟩
  .rw[ha.off];cases hcc:(decide (z'.1<=a.off)&&decide (a.off<z'.2)) with
   |false=>rfl
   |true=>
    simp only[aI,decide_eq_true_eq] at hcc;have:=hfz _ hcc.1 hcc.2;simp[this] at hz
  refine h.turn ha.block hB (o:=.cells (if a.spot.isSome then cs else cs.setIfInBounds a.off v) e z) (o':=.cells (if a'.spot.isSome then cs' else cs'.setIfInBounds a'.off v') e z') ?_ (zY h1) (zY h2);rw[ha.spot,ha.off];split
  .exact .cells hcs hfz
  exact .cells (hcs.set hv _) hfz
def Rn.with(U:Rn)(b c:Nat):Rn:=fun x=>if x=b then some c else U x
theorem Rn.QZ{U:Rn}{b c:Nat}(h:U b=none):Rn.le U (U.with b c):=fun x y hx=>by
 unfold Rn.with
 split
 .rename_i he;subst he;rw[h] at hx;cases hx
 exact hx
theorem Rn.BG{U:Rn}{b c:Nat}:U.with b c b=some c:=by simp[Rn.with]
theorem WR.fresh(h:WR F G B U lw w):U lw.heap.size=none:=by
 cases e:U lw.heap.size with
 |none=>rfl
 |some c=>
  obtain⟨o,_,h1,_⟩:=h.at_ _ _ e;have:=eY h1;omega
theorem WR.new(h:WR F G B U lw w)(hG:G<=lw.heap.size)(EF:G<=w.heap.size){o o':Obj}(ho:OR F U o o') :
  WR F G B (U.with lw.heap.size w.heap.size) { lw with heap:=lw.heap.push o } { w with heap:=w.heap.push o' }:=by
 have hle:=Rn.QZ (c:=w.heap.size) h.fresh;refine⟨fun a b c ha hb=>?_,fun b c hb=>?_,fun b hb=>by have:=h.base b hb;simp;omega,fun b c hb=>?_,fun b x hx=>?_⟩
 .unfold Rn.with at ha hb
  have lt:∀x,U x=some w.heap.size->False:=fun x hx=>by
   obtain⟨_,_,_,h2,_⟩:=h.at_ _ _ hx;have:=eY h2;omega
  split at ha
  .split at hb
   .rename_i h1 h2;rw[h1,h2]
   cases ha;exact(lt _ hb).elim
  split at hb
  .cases hb;exact(lt _ ha).elim
  exact h.inj _ _ _ ha hb
 .unfold Rn.with at hb
  split at hb
  .rename_i he;cases hb;rw[he];exact⟨hG,EF⟩
  exact h.low _ _ hb
 .by_cases he:b=lw.heap.size
  .subst he;rw[Rn.BG] at hb;cases hb;refine⟨o,o',sN,sN,ho.mono hle,fun hlt=>absurd (h.base _ hlt) oN⟩
  unfold Rn.with at hb
  simp only[he,if_false] at hb;obtain⟨p,p',e1,e2,e3,e4⟩:=h.at_ _ _ hb;refine⟨p,p',?_,?_,e3.mono hle,e4⟩
  .simp only;rw[Array.getElem?_push_lt (eY e1)];rw[<-e1];exact(aN (eY e1)).symm
  simp only;rw[Array.getElem?_push_lt (eY e2)];rw[<-e2];exact(aN (eY e2)).symm
 simp only at hx;rw[lS] at hx;split at hx
 .cases hx;exact ho.Kj
 exact h.Kj _ _ hx
end
def rQ(P:aK){α:Type}(s:iZ α):Prop:=∀w es,∃h w' es',s.runT P w es=(.halt h w',es')/\Hd h
inductive cj(P:aK)(F:Nat->Bool){α β:Type}(A:Rn->α->β->Prop):Rn->iZ α->iZ β->Prop
 |pure {U:Rn} {a:α} {b:β}:A U a b->cj P F A U (.pure a) (.pure b)
 |dead {U:Rn} {s:iZ α} {s':iZ β}:rQ P s->cj P F A U s s'
 |load {U:Rn} {a a':dc} {k:ai->iZ α} {k':ai->iZ β}:AR U a a'->(∀v v',VR F U v v'->cj P F A U (k v) (k' v'))->cj P F A U (.load .plain a k) (.load .plain a' k')
 |store {U:Rn} {a a':dc} {v v':ai} {k:iZ α} {k':iZ β}:AR U a a'->VR F U v v'->cj P F A U k k'->cj P F A U (.store .plain a v k) (.store .plain a' v' k')
 |new {U:Rn} {o o':Obj} {k:Nat->iZ α} {k':Nat->iZ β}:OR F U o o'->(∀U' r r',Rn.le U U'->U' r=some r'->cj P F A U' (k r) (k' r'))->cj P F A U (.new o k) (.new o' k')
 |shape {U:Rn} {r r':Nat} {k:Option (aV × Nat)->iZ α} {k':Option (aV × Nat)->iZ β}:U r=some r'->(∀s,cj P F A U (k s) (k' s))->cj P F A U (.shape r k) (.shape r' k')
 |getObj {U:Rn} {r r':Nat} {k:Obj->iZ α} {k':Obj->iZ β}:U r=some r'->(∀o o',OR F U o o'->cj P F A U (k o) (k' o'))->cj P F A U (.getObj r k) (.getObj r' k')
 |setObj {U:Rn} {r r':Nat} {o o':Obj} {k:iZ α} {k':iZ β}:U r=some r'->OR F U o o'->cj P F A U k k'->cj P F A U (.setObj r o k) (.setObj r' o' k')
 |choose {U:Rn} {q:dV} {k:Nat->iZ α} {k':Nat->iZ β}:(∀n,cj P F A U (k n) (k' n))->cj P F A U (.choose q k) (.choose q k')
 |program {U:Rn} {k:aK->iZ α} {k':aK->iZ β}:cj P F A U (k P) (k' P)->cj P F A U (.program k) (.program k')
 |noRoom {U:Rn} {k:iZ α} {k':iZ β}:cj P F A U k k'->cj P F A U (.mark .noRoom k) (.mark .noRoom k')
section
variable{P:aK}{F:Nat->Bool}{α β γ Z:Type}{A:Rn->α->β->Prop}{A':Rn->γ->Z->Prop}{U:Rn}
theorem sI{h:Halt}(hh:Hd h):rQ P (.halt h:iZ α):=fun w es=>⟨h,w,es,rfl,hh⟩
theorem rQ.bind{s:iZ α}(h:rQ P s)(f:α->iZ γ):rQ P (s >>= f):=fun w es=>by
 obtain⟨e,w',es',h1,h2⟩:=h w es;refine⟨e,w',es',?_,h2⟩;show(s.bind f).runT P w es=_;rw[IC,h1]
theorem cj.bind{s:iZ α}{s':iZ β}{f:α->iZ γ}{f':β->iZ Z}(h:cj P F A U s s')(hf:∀U' a b,Rn.le U U'->A U' a b->cj P F A' U' (f a) (f' b)) :
  cj P F A' U (s >>= f) (s' >>= f'):=by
 show cj P F A' U (s.bind f) (s'.bind f')
 induction h with
 |pure ha=>exact hf _ _ _ (Rn.le_refl _) ha
 |dead hd=>exact .dead (hd.bind f)
 |load ha _ ih=>exact .load ha fun v v' hv=>ih v v' hv hf
 |store ha hv _ ih=>exact .store ha hv (ih hf)
 |new ho _ ih=>exact .new ho fun U' r r' hl hr=>ih U' r r' hl hr fun U'' a b hl'=>hf U'' a b (Rn.le_trans hl hl')
 |shape hr _ ih=>exact .shape hr fun s=>ih s hf
 |getObj hr _ ih=>exact .getObj hr fun o o' ho=>ih o o' ho hf
 |setObj hr ho _ ih=>exact .setObj hr ho (ih hf)
 |choose _ ih=>exact .choose fun n=>ih n hf
 |program _ ih=>exact .program (ih hf)
 |noRoom _ ih=>exact .noRoom (ih hf)
theorem cj.imp{A':Rn->α->β->Prop}{s:iZ α}{s':iZ β}(h:cj P F A U s s')(hf:∀U' a b,Rn.le U U'->A U' a b->A' U' a b):cj P F A' U s s':=by
 induction h with
 |pure ha=>exact .pure (hf _ _ _ (Rn.le_refl _) ha)
 |dead hd=>exact .dead hd
 |load ha _ ih=>exact .load ha fun v v' hv=>ih v v' hv hf
 |store ha hv _ ih=>exact .store ha hv (ih hf)
 |new ho _ ih=>exact .new ho fun U' r r' hl hr=>ih U' r r' hl hr fun U'' a b hl'=>hf U'' a b (Rn.le_trans hl hl')
 |shape hr _ ih=>exact .shape hr fun s=>ih s hf
 |getObj hr _ ih=>exact .getObj hr fun o o' ho=>ih o o' ho hf
 |setObj hr ho _ ih=>exact .setObj hr ho (ih hf)
 |choose _ ih=>exact .choose fun n=>ih n hf
 |program _ ih=>exact .program (ih hf)
 |noRoom _ ih=>exact .noRoom (ih hf)
abbrev At(U:Rn)(Q:α->β->Prop):Rn->α->β->Prop:=fun U' a b=>U'=U/\Q a b
theorem cj.dT{Q:α->β->Prop}{s:iZ α}{s':iZ β}{f:α->iZ γ}{f':β->iZ Z}(h:cj P F (At U Q) U s s')(hf:∀a b,Q a b->cj P F A' U (f a) (f' b)) :
  cj P F A' U (s >>= f) (s' >>= f'):=h.bind fun U' a b _ ⟨e,hq⟩=>by subst e;exact hf a b hq
theorem cj.dH{Q:α->β->Prop}{a:α}{b:β}(h:Q a b):cj P F (At U Q) U (fo a) (fo b):=.pure ⟨rfl,h⟩
theorem bj{s:String}{s':iZ β}:cj P F A U (stuck s) s':=.dead (sI trivial)
theorem cO{u:Unsupported}{s':iZ β}(h:∀g,u≠.initOrder g):cj P F A U (rY u) s':=.dead (sI (by cases u<;>first|trivial|exact absurd rfl (h _)))
end
def Un(R W:Nat->Prop)(e:gO):Prop:=
 (∃a:dc,e.loc=.cell a/\e.sync=false/\R a.block/\(e.write=true->W a.block))\/(∃r,e.loc=.obj r/\e.sync=false/\R r/\(e.write=true->W r))\/e.loc=.mark .noRoom
def Un.mono{R R' W W':Nat->Prop}{e:gO}(h:Un R W e)(hR:∀c,R c->R' c)(hW:∀c,W c->W' c):Un R' W' e:=by
 rcases h with⟨a,h1,h2,h3,h4⟩|⟨r,h1,h2,h3,h4⟩|h
 .exact .inl ⟨a,h1,h2,hR _ h3,fun e=>hW _ (h4 e)⟩
 .exact .inr (.inl ⟨r,h1,h2,hR _ h3,fun e=>hW _ (h4 e)⟩)
 exact .inr (.inr h)
def Rn.knows(U:Rn)(c:Nat):Prop:=∃b,U b=some c
def Rn.owns(U:Rn)(B:Nat->Prop)(c:Nat):Prop:=∃b,¬B b/\U b=some c
def xo(lw w:ak):Prop:=∀i,lw.tape (lw.drawn+i)=w.tape (w.drawn+i)
structure np(F:Nat->Bool)(G:Nat)(B:Nat->Prop)(U:Rn)(lw w:ak)(U':Rn)(eP w':ak)(evs:Array gO):Prop where
 wr:WR F G B U' eP w'
 le:Rn.le U U'
 new:∀b c,U' b=some c->U b=some c\/(lw.heap.size<=b/\w.heap.size<=c)
 Jd:lw.heap.size<=eP.heap.size
 grow:w.heap.size<=w'.heap.size
 keep:∀c,c<w.heap.size->¬U.owns B c->w'.heap[c]?=w.heap[c]?
 fresh:∀c,w.heap.size<=c->c<w'.heap.size->U'.knows c
 tape:w'.tape=w.tape
 QY:eP.tape=lw.tape
 draw:∃k,eP.drawn=lw.drawn+k/\w'.drawn=w.drawn+k
 os:w'.os=w.os
 out:w'.output=w.output
 evs:∀e∈evs,Un U'.knows (U'.owns B) e
section
variable{P:aK}{F:Nat->Bool}{G:Nat}{B:Nat->Prop}{U U' U'':Rn}{lw w eP w' aeV w'':ak}{es es':Array gO}
theorem np.refl(h:WR F G B U lw w):np F G B U lw w U lw w #[]:=
 ⟨h,Rn.le_refl _,fun b c h=>.inl h,aJ _,aJ _,fun _ _ _=>rfl,fun c h1 h2=>absurd h1 oN,rfl,rfl,⟨0,rfl,rfl⟩,rfl,rfl,sN⟩
theorem np.trans(h:np F G B U lw w U' eP w' es)(h':np F G B U' eP w' U'' aeV w'' es')(hB:∀b,B b->b<lw.heap.size):np F G B U lw w U'' aeV w'' (es++es'):=by
 refine⟨h'.wr,Rn.le_trans h.le h'.le,fun b c hb=>?_,aG h.Jd h'.Jd,aG h.grow h'.grow,fun c hc hn=>?_,fun c h1 h2=>?_,h'.tape.trans h.tape,h'.QY.trans h.QY,?_,h'.os.trans h.os,h'.out.trans h.out,fun e he=>?_⟩
 .rcases h'.new b c hb with h1|⟨h1,h2⟩
  .exact h.new b c h1
  exact .inr ⟨aG h.Jd h1,aG h.grow h2⟩
 .rw[h'.keep c (Nat.lt_of_lt_of_le hc h.grow) ?_,h.keep c hc hn];rintro⟨b,hb,he⟩;rcases h.new b c he with h1|⟨_,h2⟩
  .exact hn ⟨b,hb,h1⟩
  omega
 .rcases Nat.lt_or_ge c w'.heap.size with hl|hg
  .obtain⟨b,hb⟩:=h.fresh c h1 hl;exact⟨b,h'.le _ _ hb⟩
  exact h'.fresh c hg h2
 .obtain⟨k,h1,h2⟩:=h.draw;obtain⟨k',h3,h4⟩:=h'.draw;exact⟨k+k',oN,oN⟩
 rcases IJ.1 he with h1|h1
 .exact(h.evs e h1).mono (fun c ⟨b,hb⟩=>⟨b,h'.le _ _ hb⟩) (fun c ⟨b,h1,hb⟩=>⟨b,h1,h'.le _ _ hb⟩)
 exact h'.evs e h1
theorem np.Z_(h:np F G B U lw w U' eP w' es)(ht:xo lw w):xo eP w':=fun i=>by
 obtain⟨k,h1,h2⟩:=h.draw;rw[h.QY,h.tape,h1,h2,Nat.add_assoc,Nat.add_assoc];exact ht _
theorem np.more(h:np F G B U lw w U' eP w' es)(h2:∀e∈es',Un U'.knows (U'.owns B) e):np F G B U lw w U' eP w' es':=
 ⟨h.wr,h.le,h.new,h.Jd,h.grow,h.keep,h.fresh,h.tape,h.QY,h.draw,h.os,h.out,h2⟩
theorem np.push(h:np F G B U lw w U' eP w' es){e:gO}(he:Un U.knows (U.owns B) e):np F G B U lw w U' eP w' (#[e]++es):=
 h.more fun x hx=>by
  rcases IJ.1 hx with h1|h1
  .simp only[fp,List.mem_singleton] at h1;subst h1;exact he.mono (fun c ⟨b,hb⟩=>⟨b,h.le _ _ hb⟩) (fun c ⟨b,h1,hb⟩=>⟨b,h1,h.le _ _ hb⟩)
  exact h.evs x h1
theorem IL(h:WR F G B U lw w)(h':WR F G B U eP w'){c:Nat}(hc:U.owns B c)(hl:eP.heap.size=lw.heap.size){o':Obj}(hh:w'.heap=w.heap.setIfInBounds c o')
  (h1:w'.tape=w.tape) (h2:eP.tape=lw.tape) (h3:eP.drawn=lw.drawn) (h4:w'.drawn=w.drawn) (h5:w'.os=w.os) (h6:w'.output=w.output):np F G B U lw w U eP w' #[]:=
 ⟨h',Rn.le_refl _,fun b c h=>.inl h,oN,by rw[hh];simp,fun x hx hn=>by
  rw[hh,aB (fun e=>hn (by rw[<-e];exact hc))],
  fun c h1 h2=>by rw[hh] at h2;simp at h2;omega,h1,h2,⟨0,by simp[h3],by simp[h4]⟩,h5,h6,sN⟩
theorem Ut(h:WR F G B U lw w)(hG:G<=lw.heap.size)(EF:G<=w.heap.size){o o':Obj}(ho:OR F U o o') :
  np F G B U lw w (U.with lw.heap.size w.heap.size) { lw with heap:=lw.heap.push o } { w with heap:=w.heap.push o' } #[]:=by
 refine⟨h.new hG EF ho,Rn.QZ h.fresh,fun b c hb=>?_,sN,sN,fun c hc _=>?_,fun c h1 h2=>?_,rfl,rfl,⟨0,rfl,rfl⟩,rfl,rfl,sN⟩
 .unfold Rn.with at hb
  split at hb
  .rename_i he;cases hb;exact .inr ⟨oN,aJ _⟩
  exact .inl hb
 .simp only;rw[Array.getElem?_push_lt hc];exact(aN hc).symm
 simp only[Array.size_push] at h2;have:c=w.heap.size:=oN;subst this;exact⟨lw.heap.size,Rn.BG⟩
theorem IP(h:WR F G B U lw w):np F G B U lw w U { lw with drawn:=lw.drawn+1 } { w with drawn:=w.drawn+1 } #[]:=
 ⟨h.tape _ _ _ _,Rn.le_refl _,fun b c h=>.inl h,aJ _,aJ _,fun _ _ _=>rfl,fun c h1 h2=>absurd h2 (by simp only;omega),rfl,rfl,⟨1,rfl,rfl⟩,rfl,rfl,sN⟩
theorem rp{α:Type}(es evs:Array α)(e:α):es.push e++evs=es++(#[e]++evs):=by
 rw[<-Array.append_assoc,Array.append_singleton]
theorem cj.runT{α β:Type}{A:Rn->α->β->Prop}{s:iZ α}{s':iZ β}(h:cj P F A U s s'):∀ {lw w:ak},WR F G B U lw w->xo lw w->G<=lw.heap.size->G<=w.heap.size->∀es es',
  (∃a eP l b w' evs U',s.runT P lw es=(.ok a eP,l)/\s'.runT P w es'=(.ok b w',es'++evs)/\A U' a b/\np F G B U lw w U' eP w' evs)\/
  (∃e eP l,s.runT P lw es=(.halt e eP,l)/\Hd e):=by
 induction h with
 |@pure U a b ha=>exact fun hw _ _ _ es es'=>.inl ⟨a,_,es,b,_,#[],U,rfl,by simp[dO],ha,.refl hw⟩
 |@dead U s s' hd=>
  intro lw w hw _ _ _ es es';obtain⟨e,w1,l,h1,h2⟩:=hd lw es;exact .inr ⟨e,w1,l,h1,h2⟩
 |@load U a a' k k' ha _ ih=>
  intro lw w hw ht hG EF es es';simp only[dO];cases hc:lw.cell? a with
  |none=>
   obtain⟨e,h1,h2⟩:=hw.noCell (P:=P) ha hc (b:=(m5 == .atomic));rw[h1];exact .inr ⟨e,lw,es,rfl,h2⟩
  |some v=>
   obtain⟨v',hc',hv⟩:=hw.cell ha hc;rw[hc'];rcases ih v v' hv hw ht hG EF (es.push ⟨.cell a,false,m5 == .atomic⟩) (es'.push ⟨.cell a',false,m5 == .atomic⟩) with⟨x,lg,l,y,w1,evs,ρ1,h1,h2,h3,h4⟩|h
   .refine .inl ⟨x,lg,l,y,w1,_,ρ1,h1,?_,h3,h4.push (e:=⟨.cell a',false,m5 == .atomic⟩) (.inl ⟨a',rfl,rfl,⟨_,ha.block⟩,sN⟩)⟩;exact h2.trans (by rw[rp])
   exact .inr h
 |@store U a a' v v' k k' ha hv _ ih=>
  intro lw w hw ht hG EF es es'
  have main:(∃a1 eP l b w' evs U',(match lw.cell? a with
     |some _=>if lw.frozen? a then(.halt (.unsupported (.unsafePointer "a write to bytes that a string shares")) lw,es) else k.runT P (lw.setCell a v) (es.push ⟨.cell a,true,m5 == .atomic⟩)
     |none=>match lw.farStore P a v (m5 == .atomic) with
      |.ok (w,uP)=>k.runT P w (es++uP.toArray.map (⟨.cell ·,true,m5 == .atomic⟩))
      |.error h=>(.halt h lw,es))=(.ok a1 eP,l)/\(match w.cell? a' with
     |some _=>if w.frozen? a' then(.halt (.unsupported (.unsafePointer "a write to bytes that a string shares")) w,es') else k'.runT P (w.setCell a' v') (es'.push ⟨.cell a',true,m5 == .atomic⟩)
     |none=>match w.farStore P a' v' (m5 == .atomic) with
      |.ok (w,uP)=>k'.runT P w (es'++uP.toArray.map (⟨.cell ·,true,m5 == .atomic⟩))
      |.error h=>(.halt h w,es'))=(.ok b w',es'++evs)/\A U' a1 b/\np F G B U lw w U' eP w' evs)\/(∃e eP l,(match lw.cell? a with
     |some _=>if lw.frozen? a then(.halt (.unsupported (.unsafePointer "a write to bytes that a string shares")) lw,es) else k.runT P (lw.setCell a v) (es.push ⟨.cell a,true,m5 == .atomic⟩)
     |none=>match lw.farStore P a v (m5 == .atomic) with
      |.ok (w,uP)=>k.runT P w (es++uP.toArray.map (⟨.cell ·,true,m5 == .atomic⟩))
      |.error h=>(.halt h lw,es))=(.halt e eP,l)/\Hd e):=by
   cases hc:lw.cell? a with
   |none=>
    obtain⟨e,h1,h2⟩:=hw.YL (P:=P) ha hc (b:=(m5 == .atomic)) (v:=v);simp only[h1];exact .inr ⟨e,lw,es,rfl,h2⟩
   |some x=>
    obtain⟨x',hc',_⟩:=hw.cell ha hc;simp only[hc'];cases hz:lw.frozen? a with
    |true=>exact .inr ⟨_,lw,es,rfl,trivial⟩
    |false=>
     obtain⟨hB,hz',hw'⟩:=hw.setCell ha hv hc hz;simp only[hz',bF,if_false];have hsz:(lw.setCell a v).heap.size=lw.heap.size:=by simp[kJ]
     have hown:U.owns B a'.block:=⟨a.block,hB,ha.block⟩
     have hturn:np F G B U lw w U (lw.setCell a v) (w.setCell a' v') #[]:=by
      obtain⟨o,o',_,e2,_,_⟩:=hw.at_ _ _ ha.block;refine⟨hw',Rn.le_refl _,fun b c h=>.inl h,oN,by simp[kJ],fun c hcl hn=>?_,fun c h1 h2=>by simp[kJ] at h2;omega,rfl,rfl,⟨0,rfl,rfl⟩,rfl,rfl,sN⟩;simp only[kJ,qs];rw[if_neg (fun e=>hn (by rw[<-e];exact hown))]
     rcases ih hw' (fun i=>ht i) oN (by simp[kJ];exact EF) (es.push ⟨.cell a,true,m5 == .atomic⟩) (es'.push ⟨.cell a',true,m5 == .atomic⟩) with⟨x,lg,l,y,w1,evs,ρ1,h1,h2,h3,h4⟩|h
     .refine .inl ⟨x,lg,l,y,w1,#[⟨.cell a',true,m5 == .atomic⟩]++(#[]++evs),ρ1,h1,?_,h3,(hturn.trans h4 hw.base).push (.inl ⟨a',rfl,rfl,⟨_,ha.block⟩,fun _=>hown⟩)⟩;exact h2.trans (by simp only[rp,fD])
     exact .inr h
  cases hv with
  |agg _ _=>exact .inr ⟨_,lw,es,rfl,trivial⟩
  |tuple _ _=>exact .inr ⟨_,lw,es,rfl,trivial⟩
  |_=>simp only[dO];exact main
 |@new U o o' k k' ho _ ih=>
  intro lw w hw ht hG EF es es';simp only[dO];have h0:=Ut hw hG EF ho;rcases ih _ lw.heap.size w.heap.size h0.le Rn.BG h0.wr (h0.Z_ ht) sP sP es es' with⟨x,lg,l,y,w1,evs,ρ1,h1,h2,h3,h4⟩|h
  .exact .inl ⟨x,lg,l,y,w1,_,ρ1,h1,by rw[h2];simp,h3,h0.trans h4 hw.base⟩
  exact .inr h
 |@shape U r r' k k' hr _ ih=>
  intro lw w hw ht hG EF es es';simp only[dO];rw[hw.shape hr];exact ih _ hw ht hG EF es es'
 |@getObj U r r' k k' hr _ ih=>
  intro lw w hw ht hG EF es es';obtain⟨o,o',e1,e2,ho,_⟩:=hw.at_ _ _ hr;simp only[dO,e1,e2];cases ho with
  |cells _ _=>exact .inr ⟨_,lw,es,rfl,trivial⟩
  |@map es1 es2 k1 hs hm=>
   simp only;rcases ih _ _ (.map hs hm) hw ht hG EF (es.push ⟨.obj r,false,(Obj.map es1 k1).isChan⟩) (es'.push ⟨.obj r',false,(Obj.map es2 k1).isChan⟩) with⟨x,lg,l,y,w1,evs,ρ1,h1,h2,h3,h4⟩|h
   .refine .inl ⟨x,lg,l,y,w1,_,ρ1,h1,?_,h3,h4.push (e:=⟨.obj r',false,(Obj.map es2 k1).isChan⟩) (.inr (.inl ⟨r',rfl,rfl,⟨_,hr⟩,sN⟩))⟩;exact h2.trans (by simp only[rp,fD])
   exact .inr h
  |@number a1 a2 k1 hs=>
   simp only;rcases ih _ _ (.number k1 hs) hw ht hG EF (es.push ⟨.obj r,false,(Obj.number a1 k1).isChan⟩) (es'.push ⟨.obj r',false,(Obj.number a2 k1).isChan⟩) with⟨x,lg,l,y,w1,evs,ρ1,h1,h2,h3,h4⟩|h
   .refine .inl ⟨x,lg,l,y,w1,_,ρ1,h1,?_,h3,h4.push (e:=⟨.obj r',false,(Obj.number a2 k1).isChan⟩) (.inr (.inl ⟨r',rfl,rfl,⟨_,hr⟩,sN⟩))⟩;exact h2.trans (by simp only[rp,fD])
   exact .inr h
 |@setObj U r r' o o' k k' hr ho _ ih=>
  intro lw w hw ht hG EF es es';obtain⟨p,p',e1,e2,hp,hfz⟩:=hw.at_ _ _ hr;simp only[dO,e1,e2];cases hp with
  |cells _ _=>exact .inr ⟨_,lw,es,rfl,trivial⟩
  |@map es1 es2 k1 hs hm=>
   simp only
   have hB:¬B r:=fun hl=>by
    obtain⟨_,_,_,h,_⟩:=hfz hl;cases h
   have hown:U.owns B r':=⟨r,hB,hr⟩
   have hw':WR F G B U { lw with heap:=lw.heap.setIfInBounds r o } { w with heap:=w.heap.setIfInBounds r' o' }:=hw.turn hr hB ho rfl rfl
   have hturn:np F G B U lw w U { lw with heap:=lw.heap.setIfInBounds r o } { w with heap:=w.heap.setIfInBounds r' o' } #[]:=
    IL hw hw' hown sN rfl rfl rfl rfl rfl rfl rfl
   have hch:o'.isChan=false:=by cases ho<;>rfl
   rcases ih hw' (fun i=>ht i) (by simpa using hG) (by simpa using EF) (es.push ⟨.obj r,true,o.isChan⟩) (es'.push ⟨.obj r',true,o'.isChan⟩) with⟨x,lg,l,y,w1,evs,ρ1,h1,h2,h3,h4⟩|h
   .refine .inl ⟨x,lg,l,y,w1,#[⟨.obj r',true,o'.isChan⟩]++(#[]++evs),ρ1,h1,?_,h3,(hturn.trans h4 hw.base).push (.inr (.inl ⟨r',rfl,hch,⟨_,hr⟩,fun _=>hown⟩))⟩;exact h2.trans (by simp only[rp,fD])
   exact .inr h
  |@number a1 a2 k1 hs=>
   simp only
   have hB:¬B r:=fun hl=>by
    obtain⟨_,_,_,h,_⟩:=hfz hl;cases h
   have hown:U.owns B r':=⟨r,hB,hr⟩
   have hw':WR F G B U { lw with heap:=lw.heap.setIfInBounds r o } { w with heap:=w.heap.setIfInBounds r' o' }:=hw.turn hr hB ho rfl rfl
   have hturn:np F G B U lw w U { lw with heap:=lw.heap.setIfInBounds r o } { w with heap:=w.heap.setIfInBounds r' o' } #[]:=
    IL hw hw' hown sN rfl rfl rfl rfl rfl rfl rfl
   have hch:o'.isChan=false:=by cases ho<;>rfl
   rcases ih hw' (fun i=>ht i) (by simpa using hG) (by simpa using EF) (es.push ⟨.obj r,true,o.isChan⟩) (es'.push ⟨.obj r',true,o'.isChan⟩) with⟨x,lg,l,y,w1,evs,ρ1,h1,h2,h3,h4⟩|h
   .refine .inl ⟨x,lg,l,y,w1,#[⟨.obj r',true,o'.isChan⟩]++(#[]++evs),ρ1,h1,?_,h3,(hturn.trans h4 hw.base).push (.inr (.inl ⟨r',rfl,hch,⟨_,hr⟩,fun _=>hown⟩))⟩;exact h2.trans (by simp only[rp,fD])
   exact .inr h
 |@choose U q k k' _ ih=>
  intro lw w hw ht hG EF es es';simp only[dO];split
  .exact ih 0 hw ht hG EF es es'
  have h0:lw.tape lw.drawn=w.tape w.drawn:=ht 0;rw[h0];have hd:=IP hw;rcases ih (q.cut (w.tape w.drawn q)) hd.wr (hd.Z_ ht) hG EF es es' with⟨x,lg,l,y,w1,evs,ρ1,h1,h2,h3,h4⟩|h
  .exact .inl ⟨x,lg,l,y,w1,_,ρ1,h1,by rw[h2];simp,h3,hd.trans h4 hw.base⟩
  exact .inr h
 |@program U k k' _ ih=>
  intro lw w hw ht hG EF es es';simp only[dO];exact ih hw ht hG EF es es'
 |@noRoom U k k' _ ih=>
  intro lw w hw ht hG EF es es';simp only[dO];rcases ih hw ht hG EF (es.push ⟨.mark .noRoom,false,true⟩) (es'.push ⟨.mark .noRoom,false,true⟩) with⟨x,lg,l,y,w1,evs,ρ1,h1,h2,h3,h4⟩|h
  .refine .inl ⟨x,lg,l,y,w1,_,ρ1,h1,?_,h3,h4.push (e:=⟨.mark .noRoom,false,true⟩) (.inr (.inr rfl))⟩;exact h2.trans (by simp only[rp,fD])
  exact .inr h
end
section
variable{P:aK}{F:Nat->Bool}{α β γ Z:Type}{A:Rn->α->β->Prop}{A':Rn->γ->Z->Prop}{U:Rn}
abbrev Same(U:Rn)(C:α->Prop):Rn->α->α->Prop:=At U fun a b=>a=b/\C a
theorem cj.bK{C:α->Prop}{s s':iZ α}{f:α->iZ γ}{f':α->iZ Z}(h:cj P F (Same U C) U s s')(hf:∀a,C a->cj P F A' U (f a) (f' a)) :
  cj P F A' U (s >>= f) (s' >>= f'):=h.dT fun a b ⟨e,hc⟩=>by subst e;exact hf a hc
theorem xF{C:α->Prop}{a:α}(h:C a):cj P F (Same U C) U (fo a) (fo a):=.pure ⟨rfl,rfl,h⟩
theorem dr{a:α}:cj P F (Same U fun _=>True) U (fo a) (fo a):=.pure ⟨rfl,rfl,trivial⟩
theorem kV{f:aK->iZ α}{f':aK->iZ β}(h:cj P F A U (f P) (f' P)):cj P F A U (Go.program >>= f) (Go.program >>= f'):=.program h
theorem dE{t:aV}:cj P F (Same U fun d=>P.underlying t=some d) U (jr t) (jr t):=by
 unfold jr;refine kV ?_;cases h:P.underlying t with
 |none=>exact bj
 |some d=>exact xF rfl
theorem jN{t:aV}:cj P F (Same U fun d=>P.info? t=some d) U (lG t) (lG t):=by
 unfold lG;refine kV ?_;cases h:P.info? t with
 |none=>exact bj
 |some d=>exact xF rfl
theorem ie{t:aV}:cj P F (Same U fun n=>∃i,P.info? t=some i/\n=i.size) U (sizeOf t) (sizeOf t):=by
 unfold sizeOf;refine jN.bK fun i hi=>?_;exact xF ⟨i,hi,rfl⟩
theorem E7{t:aV}:cj P F (Same U fun _=>True) U (isAgg t) (isAgg t):=by
 unfold isAgg;refine dE.bK fun d _=>?_;cases d<;>exact dr
def o8(P:aK)(t:aV):Bool:=((P.info? t).bind (·.zero)).all Ge
theorem lV{t:aV}(h:o8 P t=true):cj P F (At U (VR F U)) U (jl t) (jl t):=by
 unfold jl;refine jN.bK fun i hi=>?_;unfold o8 at h;rw[hi] at h;cases hz:i.zero with
 |none=>exact cO (fun g=>by simp)
 |some v=>
  simp only[gZ,hz,Option.all_some] at h;exact .dH (AL h)
theorem I6{a a':dc}(ha:AR U a a'):cj P F (At U (VR F U)) U (load a) (load a'):=.load ha fun v v' hv=>.dH hv
theorem rf{a a':dc}(ha:AR U a a'):∀(n i:Nat) {acc ZO:Array ai},jg F U acc ZO->cj P F (At U (jg F U)) U (loadCellsFrom a i n acc) (loadCellsFrom a' i n ZO)
 |0,i,acc,ZO,h=>.dH h
 |n+1,i,acc,ZO,h=>(I6 (ha.add i)).dT fun v v' hv=>rf ha n (i+1) (h.push hv)
theorem wJ{a a':dc}(ha:AR U a a')(n:Nat):cj P F (At U (jg F U)) U (loadCells a n) (loadCells a' n):=rf ha n 0 .nil
theorem zZ{t:aV}{a a':dc}(ha:AR U a a'):cj P F (At U (VR F U)) U (loadVar t a) (loadVar t a'):=by
 unfold loadVar;refine E7.bK fun b _=>?_;cases b with
 |true=>exact ie.bK fun n _=>(wJ ha n).dT fun cs cs' h=>.dH h.agg
 |false=>exact I6 ha
theorem OJ{a a':dc}{v v':ai}(ha:AR U a a')(hv:VR F U v v'):cj P F (At U fun _ _=>True) U (store a v) (store a' v'):=.store ha hv (.dH trivial)
inductive T6(F:Nat->Bool)(U:Rn):List ai->List ai->Prop
 |nil:T6 F U [] []
 |cons {x y:ai} {l m:List ai}:VR F U x y->T6 F U l m->T6 F U (x::l) (y::m)
theorem abz{l m:List ai}(hs:l.length=m.length)(h:∀(i:Nat) (x y:ai),l[i]?=some x->m[i]?=some y->VR F U x y):T6 F U l m:=by
 induction l generalizing m with
 |nil=>
  cases m with
  |nil=>exact .nil
  |cons y m=>cases hs
 |cons x l ih=>
  cases m with
  |nil=>cases hs
  |cons y m=>exact .cons (h 0 x y rfl rfl) (ih (by simpa using hs) fun i a b h1 h2=>h (i+1) a b (by simpa using h1) (by simpa using h2))
theorem jg.list{a a':Array ai}(h:jg F U a a'):T6 F U a.toList a'.toList:=abz (by simpa using h.size) fun i x y h1 h2=>h.at_ i x y (by simpa using h1) (by simpa using h2)
theorem T6.row{l m:List ai}(h:T6 F U l m):jg F U l.toArray m.toArray:=by
 induction h with
 |nil=>exact .nil
 |@cons x y l m hv _ ih=>
  have:=(jg.one hv).append ih;simpa using this
theorem vC{a a':dc}(ha:AR U a a'){l m:List ai}(h:T6 F U l m):∀i,cj P F (At U fun _ _=>True) U (storeCells a l i) (storeCells a' m i):=by
 induction h with
 |nil=>intro i;exact .dH trivial
 |cons hv _ ih=>intro i;exact(OJ (ha.add i) hv).dT fun _ _ _=>ih (i+1)
theorem Hq{t:aV}{a a':dc}{v v':ai}(ha:AR U a a')(hv:VR F U v v'):cj P F (At U fun _ _=>True) U (storeVar t a v) (storeVar t a' v'):=by
 unfold storeVar;refine ie.bK fun n _=>?_;rw[<-hv.cells.size];split
 .exact .dead ((sI (h:=.stuck _) trivial).bind _)
 exact vC ha hv.cells.list 0
theorem wI{e:aV}{cs cs':Array ai}(h:jg F U cs cs'):cj P F AR U (newRow e cs) (newRow e cs'):=by
 unfold newRow;exact cj.bind (A:=fun U' r r'=>U' r=some r') (.new (.cells h fun i h1 h2=>absurd h2 (Nat.not_lt_zero _)) fun U' r r' _ hr=>.pure hr) fun U' r r' _ hr=>.pure ⟨hr,rfl,rfl⟩
theorem Db{e:aV}{v v':ai}(h:VR F U v v'):cj P F AR U (newVar e v) (newVar e v'):=wI h.cells
theorem oD{t:aV}{cs cs':Array ai}(h:jg F U cs cs')(off:Nat):cj P F (At U (VR F U)) U (part t cs off) (part t cs' off):=by
 unfold part;refine E7.bK fun b _=>?_;cases b with
 |true=>exact ie.bK fun n _=>.dH (h.extract _ _).agg
 |false=>
  simp only[bF,if_false];cases hx:cs[off]? with
  |none=>exact bj
  |some x=>
   obtain⟨y,hy,hv⟩:=h.get hx;rw[hy];exact .dH hv
theorem rb{r r':Nat}(h:U r=some r'):cj P F (Same U fun _=>True) U (shape r) (shape r'):=.shape h fun s=>dr
theorem Hr{r r':Nat}(h:U r=some r'):cj P F (At U fun x y=>(x=none/\y=none)\/∃a a' l,x=some (a,l)/\y=some (a',l)/\AR U a a') U (numberAt r) (numberAt r'):=by
 unfold numberAt;refine(rb h).bK fun s _=>?_;split
 .exact .dH (.inl ⟨rfl,rfl⟩)
 .refine cj.dT (Q:=OR F U) (.getObj h fun o o' ho=>.dH ho) fun o o' ho=>?_;cases ho with
  |cells _ _=>exact .dH (.inl ⟨rfl,rfl⟩)
  |map _ _=>exact .dH (.inl ⟨rfl,rfl⟩)
  |number l ha=>exact .dH (.inr ⟨_,_,l,rfl,rfl,ha⟩)
theorem iR{a a':dc}(h:AR U a a'):cj P F (At U fun x y=>AR U x.1 y.1/\x.2=y.2) U (wh a) (wh a'):=by
 unfold wh;refine(Hr h.block).dT fun x y Y0=>?_;rcases Y0 with⟨rfl,rfl⟩|⟨b,b',l,rfl,rfl,hb⟩
 .exact .dH ⟨h,rfl⟩
 exact .dH ⟨hb,rfl⟩
theorem C9{r r':Nat}(h:U r=some r'):cj P F (At U fun x y=>x=none/\y=none) U (viewAt r) (viewAt r'):=by
 unfold viewAt;refine(rb h).bK fun s _=>?_;split
 .exact .dH ⟨rfl,rfl⟩
 refine cj.dT (Q:=OR F U) (.getObj h fun o o' ho=>.dH ho) fun o o' ho=>?_;cases ho<;>exact .dH ⟨rfl,rfl⟩
theorem LZ{a a':dc}(h:AR U a a'):cj P F (At U fun _ _=>True) U (noView a) (noView a'):=by
 unfold noView;refine(C9 h.block).dT fun x y ⟨hx,hy⟩=>?_;subst hx;subst hy;exact .dH trivial
theorem uS{v v':ai}(h:VR F U v v'):cj P F (Same U fun x=>v=.int x.1 x.2/\v'=.int x.1 x.2) U (asIntOf v) (asIntOf v'):=by
 cases h<;>first|exact .pure ⟨rfl,rfl,rfl,rfl⟩|exact bj|exact cO sN
theorem OS{v v':ai}(h:VR F U v v'):cj P F (Same U fun n=>∃k,v=.int k n/\v'=.int k n) U (asInt v) (asInt v'):=by
 unfold asInt;exact(uS h).bK fun x hx=>xF ⟨_,hx⟩
theorem Mc{a a':dc}(h:AR U a a'):cj P F (Same U fun _=>True) U (byteOf a) (byteOf a'):=by
 unfold byteOf;rw[h.spot];cases a.spot with
 |some s=>exact dr
 |none=>
  simp only[pure_bind];refine kV ?_;refine(LZ h).dT fun _ _ _=>(rb h.block).bK fun s _=>?_;cases s with
  |none=>exact bj
  |some x=>
   obtain⟨e,n⟩:=x;simp only[h.off];split
   .exact dr
   .cases byteOfCell P P.depth e (a.off % P.cellsOf e) with
    |none=>exact bj
    |some b=>exact dr
theorem qw{α:Type}{e:RuntimeError}(h:∀i c a m,e≠.typeAssertion i c a m)(h':e≠.panicNil):rQ P (eO e:iZ α):=by
 intro w es;cases e with
 |typeAssertion i c a m=>exact absurd rfl (h _ _ _ _)
 |panicNil=>exact absurd rfl h'
 |_=>exact⟨_,w,es,rfl,trivial⟩
theorem gT{e:RuntimeError}{s':iZ β}(h:∀i c a m,e≠.typeAssertion i c a m:=by simp)(h':e≠.panicNil:=by simp):cj P F A U (eO e) s':=.dead (qw h h')
theorem fL{u:Unsupported}(h:∀g,u≠.initOrder g):rQ P (rY u:iZ α):=sI (by cases u<;>first|trivial|exact absurd rfl (h _))
theorem wL{q:dV}:cj P F (Same U fun _=>True) U (Bp q) (Bp q):=.choose fun n=>dr
theorem mG{k:IntKind}{x y:Int}{c:BoundsCode}:cj P F A U (boundsPanic k x y c:iZ α) (boundsPanic k x y c:iZ β):=by
 unfold boundsPanic;dsimp only;split
 .refine cj.bind (A:=fun _ _ _=>True) (cj.bind (A:=fun _ _ _=>True) (wL.imp fun _ _ _ _ _=>trivial) fun _ _ _ _ _=>.pure trivial) fun U' a b _ _=>?_;exact gT
 refine cj.bind (A:=fun _ _ _=>True) (.pure trivial) fun U' a b _ _=>?_;exact gT
theorem wG{ts ts':Array aV}{t t':aV}{p p':Option dc}{v v':ai}(hp:VR F U (.pointer p) (.pointer p'))(hv:VR F U v v') :
  cj P F (At U fun x y=>∃a a',AR U a a'/\x=.pointer (some a)/\y=.pointer (some a')) U (Builtin.unsafeAdd_ ts t #[.pointer p,v]) (Builtin.unsafeAdd_ ts' t' #[.pointer p',v']):=by
 unfold Builtin.unsafeAdd_;refine(OS hv).bK fun n _=>?_
 by_cases h0:n=0
 .simp only[h0,if_true];cases hp with
  |D9=>exact .dead ((fL sN).bind _)
  |ptr ha=>
   simp only[bind_assoc];refine(C9 ha.block).dT fun x y ⟨hx,hy⟩=>?_;subst hx;subst hy;exact .dH ⟨_,_,ha,rfl,rfl⟩
 simp only[h0,if_false,pure_bind]
 by_cases h1:n<0
 .simp only[h1,if_true];exact .dead ((fL sN).bind _)
 .simp only[h1,if_false,pure_bind];cases hp with
  |D9=>exact cO sN
  |@ptr a a' ha=>
   refine(rb ha.block).bK fun s _=>?_;cases s with
   |none=>exact cO sN
   |some x=>
    obtain⟨e,n'⟩:=x;refine kV ?_;simp only[ha.off];cases cellAtBytes P P.depth e (n' / P.cellsOf e) a.off n with
    |none=>exact cO sN
    |some off=>exact .dH ⟨_,_,ha.at off,rfl,rfl⟩
theorem Hu{a a':dc}(ha:AR U a a')(l:Bool):cj P F (VR F) U (asNumber a l) (asNumber a' l):=by
 unfold asNumber;exact cj.bind (A:=fun U' r r'=>U' r=some r') (.new (.number l ha) fun U' r r' _ hr=>.pure hr) fun U' r r' _ hr=>.pure (.ptr ⟨hr,rfl,rfl⟩)
end
structure Xv(P:aK)(U:Rn):Prop where
 inj:∀a b c,U a=some c->U b=some c->a=b
 low:∀b c,U b=some c->P.globals.size<=b/\P.globals.size<=c
def AR.eq_iff{U:Rn}(hi:∀a b c,U a=some c->U b=some c->a=b){a a' b b':dc}(ha:AR U a a')(hb:AR U b b'):a=b↔a'=b':=by
 constructor
 .rintro rfl;have h1:=ha.block;rw[hb.block] at h1;injection h1 with h1
  cases a';cases b';have:=ha.off;have:=hb.off;have:=ha.spot;have:=hb.spot;simp_all
 rintro rfl;have:=hi _ _ _ ha.block hb.block;cases a;cases b;have:=ha.off;have:=hb.off;have:=ha.spot;have:=hb.spot;simp_all
section
variable{P:aK}{F:Nat->Bool}{α β γ Z:Type}{A:Rn->α->β->Prop}{A':Rn->γ->Z->Prop}{U:Rn}
theorem yV{t:aV}{k:IntKind}(ht:P.underlying t=some (.int k)){p p':Option dc}(hp:VR F U (.pointer p) (.pointer p')){v v':ai}(hv:VR F U v v') :
  cj P F (VR F) U (movedNumber t (.pointer p) v) (movedNumber t (.pointer p') v'):=by
 unfold movedNumber;refine dE.bK fun d hd=>?_;rw[ht] at hd;cases hd;simp only[bF,if_false,pure_bind];cases hp with
 |D9=>
  refine(wG (.D9) hv).imp fun U' x y _ h=>?_;obtain⟨rfl,a,a',ha,rfl,rfl⟩:=h;exact .ptr ha
 |ptr ha=>
  refine(iR ha).dT fun x y Y0=>?_;obtain⟨x1,x2⟩:=x;obtain⟨y1,y2⟩:=y;obtain⟨h1,h2⟩:=Y0;simp only at h1 h2;subst h2;refine(wG (.ptr h1) hv).dT fun x y Y0=>?_;obtain⟨a,a',ha,rfl,rfl⟩:=Y0;exact Hu ha _
theorem J2{k:IntKind}{a a':dc}(ha:AR U a a')(n:Int):cj P F (VR F) U (Op.addrMod k a n) (Op.addrMod k a' n):=by
 unfold Op.addrMod;refine(rb ha.block).bK fun s _=>?_;cases s with
 |none=>exact cO sN
 |some x=>
  obtain⟨e,m⟩:=x;refine jN.bK fun i _=>?_;dsimp only;split
  .exact .dead ((fL sN).bind _)
  refine(Mc ha).bK fun b _=>?_;exact .pure (.int _ _)
theorem wH(R:Xv P U){a a' b b':dc}(ha:AR U a a'){f:Nat × Nat->iZ α}{s':iZ β}:cj P F A U (Op.twoPlaces a b >>= f) s':=by
 refine .dead (rQ.bind ?_ f);unfold Op.twoPlaces;intro w es;have h:=(R.low _ _ ha.block).1;have hh:(a.block !=b.block||decide (a.block≥P.globals.size))=true:=by simp[h]
 have hp:∀ {γ:Type} (f:aK->iZ γ),(Go.program >>= f).runT P w es=(f P).runT P w es:=fun f=>rfl;rw[hp];dsimp only;rw[if_pos hh];exact((fL sN).bind _) w es
theorem Hs{op:BinOp}{k:IntKind}{a b:Int}:cj P F (VR F) U (Op.intArith op k a b) (Op.intArith op k a b):=by
 unfold Op.intArith;split<;>first|exact .pure (.int _ _)|exact bj
theorem L_{op:BinOp}{k:IntKind}{a b:Int}:cj P F (VR F) U (Op.intDiv op k a b) (Op.intDiv op k a b):=by
 unfold Op.intDiv;split
 .exact gT
 split<;>first|exact .pure (.int _ _)|exact bj
theorem JX{op:BinOp}{k:IntKind}{a b:Int}:cj P F (VR F) U (Op.intBits op k a b) (Op.intBits op k a b):=by
 unfold Op.intBits;dsimp only;split<;>first|exact .pure (.int _ _)|exact bj
theorem Ma{op:BinOp}{a b:Int}:cj P F (VR F) U (Op.intCmp op a b) (Op.intCmp op a b):=by
 unfold Op.intCmp;split<;>first|exact .pure (.bool _)|exact bj
theorem E4{op:BinOp}{k k':IntKind}{a b:Int}:cj P F (VR F) U (Op.shift op k a k' b) (Op.shift op k a k' b):=by
 unfold Op.shift;split
 .exact gT
 dsimp only;split<;>first|exact .pure (.int _ _)|exact bj
theorem yo{op:BinOp}{a b:ByteArray}:cj P F (VR F) U (Op.stringOp op a b) (Op.stringOp op a b):=by
 unfold Op.stringOp;dsimp only;split
 .split
  .exact cO sN
  exact .pure (.string _)
 all_goals first|exact .pure (.bool _)|exact bj
def aaf:BinOp->Bool
 |.add|.sub|.mul|.quo|.shl|.shr|.and|.or|.lss|.leq|.gtr|.geq=>true
 |_=>false
theorem wK{op:BinOp}{t:aV}{k k':IntKind}{a b:Int}:cj P F (VR F) U (binOp op t (.int k a) (.int k' b)) (binOp op t (.int k a) (.int k' b)):=by
 by_cases hk:k=k'
 .cases op<;>simp only[binOp,hk,ne_eq,not_true,not_false_eq_true,if_true,if_false]<;>first|exact Hs|exact L_|exact JX|exact Ma|exact E4
 cases op<;>simp only[binOp,hk,ne_eq,not_true,not_false_eq_true,if_true,if_false]<;>first|exact bj|exact E4
theorem OQ(R:Xv P U){op:BinOp}{t:aV}{k:IntKind}(ht:P.underlying t=some (.int k))(hop:aaf op=true){x x' y y':ai}(hx:VR F U x x')(hy:VR F U y y') :
  cj P F (VR F) U (binOp op t x y) (binOp op t x' y'):=by
 have aet:∀ {p p':Option dc} {v v':ai},VR F U (.pointer p) (.pointer p')->VR F U v v'->
   cj P F (VR F) U (do if (<-jr t) matches .unsafePointer then movedPointer t (.pointer p) v else movedNumber t (.pointer p) v) (do if (<-jr t) matches .unsafePointer then movedPointer t (.pointer p') v' else movedNumber t (.pointer p') v'):=by
  intro p p' v v' hp hv;refine dE.bK fun d hd=>?_;rw[ht] at hd;cases hd;exact yV ht hp hv
 have pp:∀ {a a' b b':dc} (g:dc->dc->iZ ai) (g':dc->dc->iZ ai),(∀c d c' d',AR U c c'->AR U d d'->cj P F (VR F) U (g c d) (g' c' d'))->AR U a a'->AR U b b'->
   cj P F (VR F) U (do g (<-wh a).1 (<-wh b).1) (do g' (<-wh a').1 (<-wh b').1):=by
  intro a a' b b' g g' hg ha hb;exact(iR ha).dT fun c c' hc=>(iR hb).dT fun d d' hd=>hg _ _ _ _ hc.1 hd.1
 have pm:∀ {a a':dc} (k:IntKind) (n:Int),AR U a a'->cj P F (VR F) U (do Op.addrMod k (<-wh a).1 n) (do Op.addrMod k (<-wh a').1 n):=by
  intro a a' k n ha;exact(iR ha).dT fun c c' hc=>J2 hc.1 n
 have aiO:∀c d c' d',AR U c c'->AR U d d'->cj P F (VR F) U (Op.addrSub .u64 c d) (Op.addrSub .u64 c' d'):=fun c d c' d' hc hd=>by
  unfold Op.addrSub;exact wH R hc (b':=d')
 have PN:∀op c d c' d',AR U c c'->AR U d d'->cj P F (VR F) U (Op.addrCmp op c d) (Op.addrCmp op c' d'):=fun op c d c' d' hc hd=>by
  unfold Op.addrCmp;exact wH R hc (b':=d')
 have aiP:∀op a b,binOp op t (.string a) (.string b)=Op.stringOp op a b:=fun op a b=>by cases op<;>simp only[binOp]
 cases hx<;>cases hy<;>first
  |exact wK
  |(rw[aiP];exact yo)
  |(cases op<;>first|(cases hop;done)|exact yo|exact bj|exact cO sN|exact aet (.ptr ‹_›) (.int _ _)|exact aet .D9 (.int _ _)|exact yV ht (.ptr ‹_›) (.int _ _)|exact yV ht .D9 (.int _ _)|exact pp _ _ aiO ‹_› ‹_›|exact pp _ _ (PN _) ‹_› ‹_›|exact pm _ _ ‹_›)
end
def ql(P:aK):Nat->aV->Bool
 |0,_=>false
 |n+1,t=>
  match P.underlying t with
  |some (.struct fs)=>fs.all fun f=>ql P n f.type
  |some (.array _ e)=>ql P n e
  |some .bool|some .string|some (.int _)|none=>true
  |_=>false
section
variable{P:aK}{F:Nat->Bool}{α β γ Z:Type}{A:Rn->α->β->Prop}{A':Rn->γ->Z->Prop}{U:Rn}
theorem vD{ι:Type}{f f':ι->β->iZ (ForInStep β)}{l:List ι}(hf:∀a∈l,∀b,cj P F (Same U fun _=>True) U (f a b) (f' a b)):∀b,cj P F (Same U fun _=>True) U (forIn l b f) (forIn l b f'):=by
 induction l with
 |nil=>intro b;exact dr
 |cons a l ih=>
  intro b;rw[List.forIn_cons,List.forIn_cons];refine(hf a sN b).bK fun r _=>?_;cases r with
  |done b=>exact dr
  |yield b=>exact ih (fun a ha=>hf a (by simp[ha])) b
theorem tY{ι:Type}{f f':ι->β->iZ (ForInStep β)}{l:Array ι}(hf:∀a∈l,∀b,cj P F (Same U fun _=>True) U (f a b) (f' a b))(b:β):cj P F (Same U fun _=>True) U (forIn l b f) (forIn l b f'):=by
 rw[<-Array.forIn_toList,<-Array.forIn_toList];exact vD (fun a ha=>hf a (by simpa using ha)) _
theorem tX{f f':Nat->β->iZ (ForInStep β)}(hf:∀a b,cj P F (Same U fun _=>True) U (f a b) (f' a b))(l:Std.Legacy.Range)(b:β):cj P F (Same U fun _=>True) U (forIn l b f) (forIn l b f'):=by
 rw[Std.Legacy.Range.forIn_eq_forIn_range',Std.Legacy.Range.forIn_eq_forIn_range'];exact vD (fun a _=>hf a) _
theorem qA(R:Xv P U):∀(n d:Nat) (t:aV),ql P n t=true->∀(x x' y y':ai),VR F U x x'->VR F U y y'->cj P F (Same U fun _=>True) U (Op.equalIn d t x y) (Op.equalIn d t x' y')
 |0,d,t,h,x,x',y,y',hx,hy=>by cases h
 |n+1,0,t,h,x,x',y,y',hx,hy=>by simp only[Op.equalIn];exact cO sN
 |n+1,d+1,t,h,x,x',y,y',hx,hy=>by
  simp only[Op.equalIn];refine dE.bK fun ds M9=>?_;simp only[ql,M9] at h;cases ds with
  |bool=>cases hx<;>first|exact bj|(cases hy<;>first|exact bj|exact dr)
  |string=>cases hx<;>first|exact bj|(cases hy<;>first|exact bj|exact dr)
  |int k=>
   cases hx with
   |int k1 m=>
    cases hy with
    |int k2 m2=>dsimp only;split<;>first|exact dr|exact bj
    |ptr ha=>
     cases m with
     |ofNat n=>
      cases n with
      |zero=>exact dr
      |succ n=>exact cO sN
     |negSucc n=>exact cO sN
    |_=>first|exact bj|exact cO sN
   |ptr ha=>
    cases hy with
    |int k2 m2=>
     cases m2 with
     |ofNat n=>
      cases n with
      |zero=>exact dr
      |succ n=>exact cO sN
     |negSucc n=>exact cO sN
    |ptr hb=>
     dsimp only;refine(iR ha).dT fun c c' hc=>(iR hb).dT fun d d' hd=>kV ?_
     have e1:(c.fst.block==d.fst.block&&decide (c.fst.block<P.globals.size))=false:=by
      have:=(R.low _ _ hc.1.block).1;simp;omega
     have e2:(c'.fst.block==d'.fst.block&&decide (c'.fst.block<P.globals.size))=false:=by
      have:=(R.low _ _ hc.1.block).2;simp;omega
     simp only[e1,e2,bF,if_false];refine jN.bK fun i _=>?_;split
     .have e3:=hc.1.eq_iff R.inj hd.1
      by_cases he:c.fst=d.fst
      .simp only[he,beq_self_eq_true,if_true,e3.1 he];exact dr
      have he':=fun h=>he (e3.2 h);simp only[beq_eq_false_iff_ne.2 he,bF,if_false];exact cO sN
     exact cO sN
    |_=>first|exact bj|exact cO sN
   |_=>cases hy<;>first|exact bj|exact cO sN
  |struct fs=>
   cases hx<;>first|exact bj|(cases hy<;>first|exact bj|skip)
   rename_i cs cs' hs hv ds ds' hs' hv';dsimp only;refine kV ?_;split
   .exact .dead ((fL sN).bind _)
   refine cj.bK (C:=fun _=>True) (tY (fun f hf b=>?_) _) fun r _=>?_
   .split
    .refine(oD ⟨hs,hv⟩ _).dT fun p p' hp=>(oD ⟨hs',hv'⟩ _).dT fun q q' hq=>?_;refine(qA R n d f.type (kG.1 h f hf) _ _ _ _ hp hq).bK fun b _=>?_;split<;>exact dr
    exact dr
   split<;>exact dr
  |array len e=>
   cases hx<;>first|exact bj|(cases hy<;>first|exact bj|skip)
   rename_i cs cs' hs hv ds ds' hs' hv';dsimp only;refine ie.bK fun m _=>?_;refine cj.bK (C:=fun _=>True) (tX (fun i b=>?_) _ _) fun r _=>?_
   .refine(oD ⟨hs,hv⟩ _).dT fun p p' hp=>(oD ⟨hs',hv'⟩ _).dT fun q q' hq=>?_;refine(qA R n d e h _ _ _ _ hp hq).bK fun b _=>?_;split<;>exact dr
   split<;>exact dr
  |_=>cases h
theorem oX{em:Bool}:∀(n d:Nat) (t:aV),ql P n t=true->∀(x x':ai),VR F U x x'->cj P F (Same U fun _=>True) U (ou em d t x) (ou em d t x')
 |0,d,t,h,x,x',hx=>by cases h
 |n+1,0,t,h,x,x',hx=>by simp only[ou];exact cO sN
 |n+1,d+1,t,h,x,x',hx=>by
  simp only[ou];refine dE.bK fun ds M9=>?_;simp only[ql,M9] at h;cases ds with
  |bool=>cases hx<;>exact dr
  |string=>cases hx<;>exact dr
  |int k=>cases hx<;>exact dr
  |struct fs=>
   cases hx<;>first|exact bj|skip
   rename_i cs cs' hs hv;dsimp only;refine cj.bK (C:=fun _=>True) (tY (fun f hf b=>?_) _) fun _ _=>dr;split
   .refine(oD ⟨hs,hv⟩ _).dT fun p p' hp=>?_;refine(oX n d f.type (kG.1 h f hf) _ _ hp).bK fun b _=>?_;exact dr
   exact dr
  |array len e=>
   cases hx<;>first|exact bj|skip
   rename_i cs cs' hs hv;dsimp only;refine cj.bK (C:=fun _=>True) (tX (fun i b=>?_) _ _) fun _ _=>dr;refine ie.bK fun m _=>(oD ⟨hs,hv⟩ _).dT fun p p' hp=>?_;refine(oX n d e h _ _ hp).bK fun b _=>?_;exact dr
  |_=>cases h
inductive EL(F:Nat->Bool)(U:Rn):List vx->List vx->Prop
 |nil:EL F U [] []
 |cons {x y:vx} {l m:List vx}:MER F U x y->EL F U l m->EL F U (x::l) (y::m)
theorem aaQ{l m:List vx}(hs:l.length=m.length)(h:∀(i:Nat) (x y:vx),l[i]?=some x->m[i]?=some y->MER F U x y):EL F U l m:=by
 induction l generalizing m with
 |nil=>
  cases m with
  |nil=>exact .nil
  |cons y m=>cases hs
 |cons x l ih=>
  cases m with
  |nil=>cases hs
  |cons y m=>exact .cons (h 0 x y rfl rfl) (ih (by simpa using hs) fun i a b h1 h2=>h (i+1) a b (by simpa using h1) (by simpa using h2))
def Fnd(F:Nat->Bool)(U:Rn)(x y:Option (Nat × ai)):Prop:=(x=none/\y=none)\/∃i v v',x=some (i,v)/\y=some (i,v')/\VR F U v v'
theorem D7(R:Xv P U){n:Nat}{t:aV}(h:ql P n t=true){k k':ai}(hk:VR F U k k'){l m:List vx}(he:EL F U l m) :
  ∀i,cj P F (At U (Fnd F U)) U (jH t k l i) (jH t k' m i):=by
 induction he with
 |nil=>intro i;exact .dH (.inl ⟨rfl,rfl⟩)
 |cons hx _ ih=>
  intro i;simp only[jH];refine(qA R n _ t h _ _ _ _ hk hx.key).bK fun b _=>?_;cases b with
  |true=>exact .dH (.inr ⟨i,_,_,rfl,rfl,hx.val⟩)
  |false=>exact ih (i+1)
theorem Sp{ds:TypeDesc}{k k' e e':ai}(hk:VR F U k k')(he:VR F U e e'):Instr.sameNow ds k e=Instr.sameNow ds k' e':=by
 cases ds<;>cases hk<;>first|rfl|(cases he<;>rfl)
theorem TA{ds:TypeDesc}{k k':ai}(hk:VR F U k k'){l m:List vx}(he:EL F U l m):∀i,
  (Instr.findNow ds k l i=none/\Instr.findNow ds k' m i=none)\/∃x y,Instr.findNow ds k l i=some x/\Instr.findNow ds k' m i=some y/\Fnd F U x y:=by
 induction he with
 |nil=>intro i;exact .inr ⟨none,none,rfl,rfl,.inl ⟨rfl,rfl⟩⟩
 |cons hx _ ih=>
  intro i;simp only[Instr.findNow,<-Sp (ds:=ds) hk hx.key];split
  .exact .inr ⟨_,_,rfl,rfl,.inr ⟨i,_,_,rfl,rfl,hx.val⟩⟩
  .exact ih (i+1)
  exact .inl ⟨rfl,rfl⟩
theorem Aa(R:Xv P U){n:Nat}{t:aV}(h:ql P n t=true){k k':ai}(hk:VR F U k k'){l m:List vx}(he:EL F U l m) :
  cj P F (At U (Fnd F U)) U (Eu t k l) (Eu t k' m):=by
 unfold Eu;refine dE.bK fun ds _=>?_;rcases TA (ds:=ds) hk he 0 with⟨h1,h2⟩|⟨x,y,h1,h2,h3⟩
 .simp only[h1,h2];exact D7 R h hk he 0
 simp only[h1,h2];exact .dH h3
def U9(P:aK)(t:aV):Bool:=match P.underlying t with|some (.map k e)=>ql P 6 k&&o8 P e|_=>true
theorem Dc{r r':Nat}(h:U r=some r'):cj P F (At U (OR F U)) U (getObj r) (getObj r'):=.getObj h fun o o' ho=>.dH ho
theorem L6(R:Xv P U){t:aV}(ht:U9 P t=true){x x' k k':ai}(hx:VR F U x x')(hk:VR F U k k')(ok:Bool) :
  cj P F (At U (VR F U)) U (Instr.lookup t x k ok) (Instr.lookup t x' k' ok):=by
 unfold Instr.lookup;refine dE.bK fun ds M9=>?_;cases ds<;>first|exact bj|skip
 rename_i kt et;simp only[U9,M9,aI] at ht;dsimp only
 have rest:∀ {es es':Array vx},es.size=es'.size->EL F U es.toList es'.toList->cj P F (At U (VR F U)) U
   (do
     ou es.isEmpty 10000 kt k
     let (v,o) <-match <-Eu kt k es.toList with
      |some (_,v)=>pure (v,true)
      |none=>pure (<-jl et,false)
     pure (if ok then .tuple #[v,.bool o] else v))
   (do
     ou es'.isEmpty 10000 kt k'
     let (v,o) <-match <-Eu kt k' es'.toList with
      |some (_,v)=>pure (v,true)
      |none=>pure (<-jl et,false)
     pure (if ok then .tuple #[v,.bool o] else v)):=by
  intro es es' hs he;have hem:es'.isEmpty=es.isEmpty:=by simp[Array.isEmpty,hs]
  rw[hem];refine(oX 6 _ kt ht.1 _ _ hk).bK fun _ _=>(Aa R ht.1 hk he).dT fun p q hpq=>?_
  have fin:∀ {v v':ai} (b:Bool),VR F U v v'->cj P F (At U (VR F U)) U (fo (if ok then .tuple #[v,.bool b] else v)) (fo (if ok then .tuple #[v',.bool b] else v')):=by
   intro v v' b hv;cases ok
   .exact .dH hv
   exact .dH ((jg.one hv).push (.bool b)).tuple
  rcases hpq with⟨rfl,rfl⟩|⟨i,v,v',rfl,rfl,hv⟩
  .exact(lV ht.2).dT fun v v' hv=>fin false hv
  exact fin true hv
 cases hx<;>first|exact bj|skip
 .exact rest rfl .nil
 .rename_i r r' hr;refine(Dc hr).dT fun o o' ho=>?_;cases ho with
  |cells _ _=>exact bj
  |number _ _=>exact bj
  |map hs he=>exact rest hs (aaQ (by simpa using hs) fun i x y h1 h2=>he i x y (by simpa using h1) (by simpa using h2))
end
section
variable{P:aK}{F:Nat->Bool}{α β γ Z:Type}{A:Rn->α->β->Prop}{A':Rn->γ->Z->Prop}{U:Rn}
theorem ME{f:ai × ai->Bool}{g:ai × ai->Bool}(h:∀x x' y y',VR F U x x'->VR F U y y'->f (x,y)=g (x',y')){l l':List ai}(hl:T6 F U l l') :
  ∀ {m m':List ai},T6 F U m m'->(l.zip m).all f=(l'.zip m').all g:=by
 induction hl with
 |nil=>intro m m' _;simp
 |cons hx _ ih=>
  intro m m' hm;cases hm with
  |nil=>simp
  |cons hy hm=>simp only[List.zip_cons_cons,ej];rw[h _ _ _ _ hx hy,ih hm]
theorem OV(R:Xv P U):∀(n:Nat) (x x' y y':ai),VR F U x x'->VR F U y y'->Instr.sameBits n x y=Instr.sameBits n x' y':=by
 intro n
 have hp:∀ {a a' b b':dc},AR U a a'->AR U b b'->((some a==some b):Bool)=(some a'==some b'):=fun {a a' b b'} ha hb=>by
  have:=ha.eq_iff R.inj hb
  by_cases he:a=b
  .rw[he,this.1 he];simp
  have he':=fun h=>he (this.2 h);rw[beq_eq_false_iff_ne.2 (by simpa using he),beq_eq_false_iff_ne.2 (by simpa using he')]
 induction n with
 |zero=>
  intro x x' y y' hx hy
  cases hx<;>cases hy<;>first
   |rfl
   |(simp only[Instr.sameBits];exact hp ‹_› ‹_›)
 |succ n ih=>
  intro x x' y y' hx hy
  cases hx<;>cases hy<;>first
   |rfl
   |(simp only[Instr.sameBits];exact hp ‹_› ‹_›)
   |(rename_i h1 h2 _ _ h3 h4
     simp only[Instr.sameBits]
     rw[h1,h3,ME (F:=F) (U:=U) (f:=fun(x,y)=>Instr.sameBits n x y) (g:=fun(x,y)=>Instr.sameBits n x y) (fun x x' y y' hx hy=>ih x x' y y' hx hy) (jg.list ⟨h1,h2⟩) (jg.list ⟨h3,h4⟩)])
theorem z_(R:Xv P U){x x' y y':ai}(hx:VR F U x x')(hy:VR F U y y'):cj P F (At U (VR F U)) U (Instr.keyThatStays x y) (Instr.keyThatStays x' y'):=by
 unfold Instr.keyThatStays;rw[<-OV R _ _ _ _ _ hx hy];split
 .exact .dH hy
 refine wL.bK fun n _=>?_;split
 .exact .dH hy
 exact .dH hx
theorem Da{r r':Nat}{o o':Obj}(h:U r=some r')(ho:OR F U o o'):cj P F (At U fun _ _=>True) U (setObj r o) (setObj r' o'):=.setObj h ho (.dH trivial)
def Pb(P:aK)(t:aV):Bool:=match P.underlying t with|some (.map k _)=>ql P 6 k|_=>true
theorem E5(R:Xv P U){t:aV}(ht:Pb P t=true){x x' k k' v v':ai}(hx:VR F U x x')(hk:VR F U k k')(hv:VR F U v v') :
  cj P F (At U fun _ _=>True) U (BF t x k v) (BF t x' k' v'):=by
 unfold BF;refine dE.bK fun ds M9=>?_;cases ds<;>first|exact bj|skip
 rename_i kt et;simp only[Pb,M9] at ht;dsimp only;cases hx<;>first|exact bj|exact gT|skip
 rename_i r r' hr;dsimp only;refine(Dc hr).dT fun o o' ho=>?_;cases ho with
 |cells _ _=>exact bj
 |number _ _=>exact bj
 |@map es es' clk hs he=>
  dsimp only;have hel:EL F U es.toList es'.toList:=aaQ (by simpa using hs) fun i x y h1 h2=>he i x y (by simpa using h1) (by simpa using h2);refine(oX 6 _ kt ht _ _ hk).bK fun _ _=>(Aa R ht hk hel).dT fun p q hpq=>?_;rcases hpq with⟨rfl,rfl⟩|⟨i,w,w',rfl,rfl,hw⟩
  .refine Da hr (.map (by simp[hs]) fun i x y h1 h2=>?_);rw[lS] at h1 h2;rw[<-hs] at h2;split at h1
   .rename_i hi;simp only[hi,if_true] at h2;cases h1;cases h2;exact⟨hk,hv,rfl⟩
   rename_i hi;simp only[hi,if_false] at h2;exact he _ _ _ h1 h2
  dsimp only
  have tP:VR F U (((es[i]?).map (·.key)).getD k) (((es'[i]?).map (·.key)).getD k'):=by
   cases hx:es[i]? with
   |none=>
    have:es'[i]?=none:=by
     rw[Array.getElem?_eq_none_iff] at hx ⊢;omega
    rw[this];exact hk
   |some x=>
    have hi:i<es.size:=(ag.1 hx).1;have hi':i<es'.size:=hs▸hi;rw[aN hi'];exact(he i x _ hx (aN hi')).key
  refine(z_ R tP hk).dT fun key apf hkey=>?_;refine Da hr (.map (by simp[hs]) fun j x y h1 h2=>?_);rw[qs] at h1 h2
  by_cases hj:i=j
  .subst hj;simp only[if_true] at h1 h2;cases hx:es[i]? with
   |none=>rw[hx] at h1;cases h1
   |some x0=>
    cases hy:es'[i]? with
    |none=>rw[hy] at h2;cases h2
    |some y0=>
     rw[hx] at h1;rw[hy] at h2;cases h1;cases h2;exact⟨hkey,hv,(he _ _ _ hx hy).born⟩
  simp only[hj,if_false] at h1 h2;exact he _ _ _ h1 h2
theorem JW{t:aV}:cj P F (VR F) U (Instr.makeMap t none) (Instr.makeMap t none):=by
 unfold Instr.makeMap;exact cj.bind (A:=fun U' r r'=>U' r=some r') (.new (.map rfl fun i x y h=>by simp at h) fun U' r r' _ hr=>.pure hr) fun U' r r' _ hr=>.pure (.map hr)
theorem oW{v v':ai}(h:VR F U v v'):cj P F (At U (AR U)) U (Instr.sureAddr v) (Instr.sureAddr v'):=by
 cases h<;>first|exact bj|exact .dH ‹_›
theorem L8{t:aV}{v v':ai}(h:VR F U v v'):cj P F (At U (VR F U)) U (wy t v) (wy t v'):=by
 unfold wy;exact(oW h).dT fun a a' ha=>zZ ha
theorem JU{t:aV}{v v' x x':ai}(h:VR F U v v')(hx:VR F U x x'):cj P F (At U fun _ _=>True) U (Instr.storeAt t v x) (Instr.storeAt t v' x'):=by
 unfold Instr.storeAt;exact(oW h).dT fun a a' ha=>Hq ha hx
def Kg(P:aK)(s:aV)(f:Nat):Bool:=match P.underlying s with
 |some (.struct fs)=>(match fs[f]? with|some fl=>(match P.info? fl.type with|some i=>i.size !=0|none=>true)|none=>true)
 |_=>true
theorem JZ{s:aV}{f:Nat}(hf:Kg P s f=true){v v':ai}(h:VR F U v v'):cj P F (At U (VR F U)) U (Instr.fieldAt s v f) (Instr.fieldAt s v' f):=by
 unfold Instr.fieldAt;refine dE.bK fun ds M9=>?_;cases ds<;>first|exact bj|skip
 rename_i fs;simp only[Kg,M9] at hf;dsimp only;cases hfl:fs[f]? with
 |none=>exact bj
 |some fl=>
  rw[hfl] at hf;simp only at hf ⊢;refine(oW h).dT fun a a' ha=>?_;unfold fieldPlace;refine cj.dT (Q:=AR U) (ie.bK fun n hn=>?_) fun b b' hb=>.dH (.ptr hb);obtain⟨i,hi,rfl⟩:=hn;rw[hi] at hf;have hne:¬i.size=0:=by simpa using hf
  simp only[hne,if_false];exact .dH (ha.add _)
theorem JY{t:aV}{v v' i i':ai}(h:VR F U v v')(hi:VR F U i i'):cj P F (At U (VR F U)) U (eX t v i) (eX t v' i'):=by
 unfold eX;refine(uS hi).bK fun x hx=>?_;obtain⟨k,n⟩:=x;dsimp only
 have rest:∀ {b b':Option dc} (len:Nat) (e:aV),VR F U (.pointer b) (.pointer b')->cj P F (At U (VR F U)) U
   (do
     let tiny:=len<=1&&(match <-jr t with|.array ..=>true|_=>false)
     match b with
     |some a=>
      if 0<=n/\n<len then pure (.pointer (some (a.add (n.toNat*(<-sizeOf e)))))
      else if tiny then rY (.noEntry "op/indexAddr.an index out of range at an array of length 0 or 1 (ledger 616)")
      else boundsPanic k n len .index
     |none=>boundsPanic k n 0 .index)
   (do
     let tiny:=len<=1&&(match <-jr t with|.array ..=>true|_=>false)
     match b' with
     |some a=>
      if 0<=n/\n<len then pure (.pointer (some (a.add (n.toNat*(<-sizeOf e)))))
      else if tiny then rY (.noEntry "op/indexAddr.an index out of range at an array of length 0 or 1 (ledger 616)")
      else boundsPanic k n len .index
     |none=>boundsPanic k n 0 .index):=by
  intro b b' len e hb;refine dE.bK fun ds _=>?_;cases hb with
  |D9=>exact mG
  |ptr ha=>
   dsimp only;split
   .exact ie.bK fun m _=>.dH (.ptr (ha.add _))
   generalize (decide (len<=1)&&_:Bool)=tiny;cases tiny
   .exact mG
   exact cO sN
 refine dE.bK fun ds M9=>?_;cases ds with
 |array len e=>exact(oW h).dT fun a a' ha=>rest len e (.ptr ha)
 |slice e=>
  cases h<;>first|exact bj|skip
  .rename_i l c;exact rest l e .D9
  exact rest _ e (.ptr ‹_›)
 |_=>cases h<;>exact bj
theorem OO{t:aV}{v v' i i':ai}(h:VR F U v v')(hi:VR F U i i'):cj P F (At U (VR F U)) U (nw t v i) (nw t v' i'):=by
 unfold nw;refine(uS hi).bK fun x hx=>?_;obtain⟨k,n⟩:=x;dsimp only;refine dE.bK fun ds M9=>?_;cases ds with
 |string=>
  cases h<;>first|exact bj|skip
  dsimp only;generalize (if 0<=n then _ else _:Option UInt8)=o;cases o with
  |none=>exact mG
  |some b=>exact .dH (.int _ _)
 |array len e=>
  cases h<;>first|exact bj|skip
  rename_i hs hv;dsimp only;split
  .exact ie.bK fun m _=>oD ⟨hs,hv⟩ _
  exact mG
 |_=>cases h<;>exact bj
theorem J0{v v':ai}(h:VR F U v v')(i:Nat):cj P F (At U (VR F U)) U (Instr.extract v i) (Instr.extract v' i):=by
 unfold Instr.extract;cases h<;>first|exact bj|skip
 rename_i hs hv;have ha:jg F U _ _:=⟨hs,hv⟩
 dsimp only;split
 .rename_i x hx;obtain⟨y,hy,hvy⟩:=ha.get hx;rw[hy];exact .dH hvy
 exact bj
theorem OT{e:aV}(h:o8 P e=true):cj P F (VR F) U (Instr.alloc e true (.tuple #[])) (Instr.alloc e true (.tuple #[])):=by
 unfold Instr.alloc;exact(lV h).dT fun v v' hv=>cj.bind (Db hv) fun U' a a' _ ha=>.pure (.ptr ha)
theorem UI{e:aV}{v v':ai}(h:VR F U v v'):cj P F (VR F) U (Instr.box e v) (Instr.box e v'):=by
 unfold Instr.box;exact cj.bind (Db h) fun U' a a' _ ha=>.pure (.ptr ha)
end
section
variable{P:aK}{F:Nat->Bool}{α β γ Z:Type}{A:Rn->α->β->Prop}{A':Rn->γ->Z->Prop}{U:Rn}
inductive PL(F:Nat->Bool)(U:Rn):List (Nat × ai)->List (Nat × ai)->Prop
 |nil:PL F U [] []
 |cons {i:Nat} {x y:ai} {l m:List (Nat × ai)}:VR F U x y->PL F U l m->PL F U ((i,x)::l) ((i,y)::m)
theorem Nt{off:Nat}{l m:List ai}(h:T6 F U l m):∀(j:Nat) {cs cs':Array ai},jg F U cs cs'->
  jg F U ((l.zipIdx j).foldl (fun cs (c,j)=>cs.setIfInBounds (off+j) c) cs) ((m.zipIdx j).foldl (fun cs (c,j)=>cs.setIfInBounds (off+j) c) cs'):=by
 induction h with
 |nil=>intro j cs cs' hc;exact hc
 |cons hx _ ih=>intro j cs cs' hc;simp only[List.zipIdx_cons,List.foldl_cons];exact ih (j+1) (hc.set hx _)
theorem P2{place:Nat->Option (Nat × Nat)}{l m:List (Nat × ai)}(h:PL F U l m):∀ {cs cs':Array ai},jg F U cs cs'->
  (Instr.fill place cs l=none/\Instr.fill place cs' m=none)\/∃x y,Instr.fill place cs l=some x/\Instr.fill place cs' m=some y/\jg F U x y:=by
 induction h with
 |nil=>intro cs cs' hc;exact .inr ⟨cs,cs',rfl,rfl,hc⟩
 |@cons i x y l m hx _ ih=>
  intro cs cs' hc;simp only[Instr.fill];cases place i with
  |none=>exact .inl ⟨rfl,rfl⟩
  |some p=>
   obtain⟨off,size⟩:=p;simp only[<-hx.cells.size,<-hc.size];split
   .exact .inl ⟨rfl,rfl⟩
   have:=Nt (off:=off) hx.cells.list 0 hc;refine ih ?_;simpa only[<-Array.foldl_toList,Array.toList_zipIdx] using this
theorem E6{ι κ:Type}{f:ι->iZ κ}(hf:∀a,cj P F (Same U fun _=>True) U (f a) (f a))(l:Array ι):cj P F (Same U fun _=>True) U (l.mapM f) (l.mapM f):=by
 rw[qg]
 have:∀l:List ι,cj P F (Same U fun _=>True) U (l.mapM f) (l.mapM f):=by
  intro l;rw[<-List.mapM'_eq_mapM]
  induction l with
  |nil=>exact dr
  |cons a l ih=>exact(hf a).bK fun _ _=>ih.bK fun _ _=>dr
 exact(this l.toList).bK fun _ _=>dr
theorem OP{t:aV}(ht:o8 P t=true){l m:Array (Nat × ai)}(h:PL F U l.toList m.toList):cj P F (At U (VR F U)) U (Instr.build t l) (Instr.build t m):=by
 unfold Instr.build;refine(lV ht).dT fun z z' hz=>?_;dsimp only;refine dE.bK fun ds _=>?_;cases ds with
 |struct fs=>
  refine(E6 (fun f=>ie.bK fun n _=>dr) fs).bK fun places _=>?_;rcases P2 (place:=(places[·]?)) h hz.cells with⟨h1,h2⟩|⟨x,y,h1,h2,h3⟩
  .simp only[h1];exact bj
  simp only[h1,h2];exact .dH h3.agg
 |array n e=>
  refine ie.bK fun n _=>?_;rcases P2 (place:=fun i=>some (i*n,n)) h hz.cells with⟨h1,h2⟩|⟨x,y,h1,h2,h3⟩
  .simp only[h1];exact bj
  simp only[h1,h2];exact .dH h3.agg
 |_=>exact bj
def Am(P:aK)(t:aV):Bool:=match P.underlying t with|some (.slice e)=>o8 P e|_=>true
theorem W8:VR F U (default:ai) (default:ai):=AL (by rfl)
theorem jg.aj6{a a':Array ai}(h:jg F U a a')(i:Nat):VR F U a[i]! a'[i]!:=by
 rw[Array.getElem!_eq_getD,Array.getElem!_eq_getD];exact h.getD W8 i
theorem JD{a a':Array ai}(h:jg F U a a')(n:Nat):jg F U ((Array.range n).map (a[· % a.size]!)) ((Array.range n).map (a'[· % a'.size]!)):=by
 refine jg.map fun i _=>?_;rw[<-h.size];exact h.aj6 _
theorem D8{t:aV}(ht:Am P t=true){n:Nat}{l m:Array (Nat × ai)}(h:PL F U l.toList m.toList):cj P F (VR F) U (Instr.buildSlice t n l) (Instr.buildSlice t n m):=by
 unfold Instr.buildSlice;refine dE.bK fun ds M9=>?_;cases ds<;>first|exact bj|skip
 rename_i e;simp only[Am,M9] at ht;refine ie.bK fun size _=>?_;dsimp only;split
 .exact .dead ((fL sN).bind _)
 have rest:∀ {z z':Array ai},jg F U z z'->cj P F (VR F) U
   (do
     let some cells:=Instr.fill (fun i=>some (i*size,size)) ((Array.range (n*size)).map (z[· % z.size]!)) l.toList|stuck "buildSlice: a part of the wrong size"
     pure (.slice (some (<-newRow e cells)) n n))
   (do
     let some cells:=Instr.fill (fun i=>some (i*size,size)) ((Array.range (n*size)).map (z'[· % z'.size]!)) m.toList|stuck "buildSlice: a part of the wrong size"
     pure (.slice (some (<-newRow e cells)) n n)):=by
  intro z z' hz;rcases P2 (place:=fun i=>some (i*size,size)) h (JD hz (n*size)) with⟨h1,h2⟩|⟨x,y,h1,h2,h3⟩
  .simp only[h1];exact bj
  simp only[h1,h2];exact cj.bind (wI h3) fun U' a a' _ ha=>.pure (.slice _ _ ha)
 split
 .exact rest .nil
 exact(lV ht).dT fun v v' hv=>rest hv.cells
def U_(P:aK)(ts:Array aV):Bool:=match ts[0]? with|some t=>(match P.underlying t with|some (.slice _)|some (.array ..)|some .string=>true|_=>false)|none=>true
theorem UH{ts:Array aV}(ht:U_ P ts=true){t:aV}{l m:Array ai}(h:jg F U l m):cj P F (At U (VR F U)) U (Builtin.len_ ts t l) (Builtin.len_ ts t m):=by
 unfold Builtin.len_;unfold U_ at ht;cases hx:l[0]? with
 |none=>cases ts[0]?<;>exact bj
 |some x=>
  obtain⟨y,hy,hv⟩:=h.get hx;rw[hy];cases h0:ts[0]? with
  |none=>exact bj
  |some t0=>
   rw[h0] at ht;dsimp only at ht ⊢;refine dE.bK fun ds M9=>?_;rw[M9] at ht;cases ds<;>first|(cases ht;done)|skip
   all_goals (cases hv<;>first|exact bj|exact .dH (VR.int _ _))
theorem Sj{x x' y y':ai}(hx:VR F U x x')(hy:VR F U y y'):cj P F (At U (VR F U)) U (Builtin.max2 x y) (Builtin.max2 x' y'):=by
 cases hx<;>cases hy<;>first
  |exact bj
  |exact cO sN
  |exact .dH (.int _ _)
  |exact .dH (.string _)
theorem Si{x x' y y':ai}(hx:VR F U x x')(hy:VR F U y y'):cj P F (At U (VR F U)) U (Builtin.min2 x y) (Builtin.min2 x' y'):=by
 cases hx<;>cases hy<;>first
  |exact bj
  |exact cO sN
  |exact .dH (.int _ _)
  |exact .dH (.string _)
theorem Dd{f:ai->ai->iZ ai}(hf:∀ {x x' y y'},VR F U x x'->VR F U y y'->cj P F (At U (VR F U)) U (f x y) (f x' y')){l m:List ai}(h:T6 F U l m) :
  ∀ {x x':ai},VR F U x x'->cj P F (At U (VR F U)) U (l.foldlM f x) (m.foldlM f x'):=by
 induction h with
 |nil=>intro x x' hx;exact .dH hx
 |cons hy _ ih=>intro x x' hx;simp only[List.foldlM_cons];exact(hf hx hy).dT fun z z' hz=>ih hz
theorem UG{ts:Array aV}{t:aV}{l m:Array ai}(h:jg F U l m):cj P F (At U (VR F U)) U (Builtin.max_ ts t l) (Builtin.max_ ts t m):=by
 unfold Builtin.max_;have hl:=h.list;generalize l.toList=l' at hl ⊢;generalize m.toList=m' at hl ⊢;cases hl with
 |nil=>exact bj
 |cons hx hl=>exact Dd Sj hl hx
theorem UF{ts:Array aV}{t:aV}{l m:Array ai}(h:jg F U l m):cj P F (At U (VR F U)) U (Builtin.min_ ts t l) (Builtin.min_ ts t m):=by
 unfold Builtin.min_;have hl:=h.list;generalize l.toList=l' at hl ⊢;generalize m.toList=m' at hl ⊢;cases hl with
 |nil=>exact bj
 |cons hx hl=>exact Dd Si hl hx
end
section
variable{P:aK}{F:Nat->Bool}{α β γ Z:Type}{A:Rn->α->β->Prop}{A':Rn->γ->Z->Prop}{U:Rn}
def oT(P:aK)(s:iZ α):Prop:=∀w es,(∃a w' es',s.runT P w es=(.ok a w',es'))\/∃h w' es',s.runT P w es=(.halt h w',es')/\Hd h
theorem oT.Gk{s:iZ α}{f:α->iZ γ}(h:oT P s)(hf:∀a,rQ P (f a)):rQ P (s >>= f):=fun w es=>by
 show ∃h w' es',(s.bind f).runT P w es=_/\_;rw[IC];rcases h w es with⟨a,w',es',h1⟩|⟨e,w',es',h1,h2⟩
 .rw[h1];exact hf a w' es'
 rw[h1];exact⟨e,w',es',rfl,h2⟩
theorem oT.bind{s:iZ α}{f:α->iZ γ}(h:oT P s)(hf:∀a,oT P (f a)):oT P (s >>= f):=fun w es=>by
 show(∃a w' es',(s.bind f).runT P w es=_)\/∃h w' es',(s.bind f).runT P w es=_/\_;rw[IC];rcases h w es with⟨a,w',es',h1⟩|⟨e,w',es',h1,h2⟩
 .rw[h1];exact hf a w' es'
 rw[h1];exact .inr ⟨e,w',es',rfl,h2⟩
theorem nJ{a:α}:oT P (fo a:iZ α):=fun w es=>.inl ⟨a,w,es,rfl⟩
theorem K_{r:Nat}:oT P (shape r):=fun w es=>.inl ⟨_,w,es,rfl⟩
theorem Ij{a:dc}:oT P (frozen a):=fun w es=>.inl ⟨_,w,es,rfl⟩
theorem A7{a:dc}{n:Nat}:oT P (Builtin.holdsCells a n):=by
 unfold Builtin.holdsCells;refine K_.bind fun s=>?_;cases s<;>exact nJ
theorem Ei{size qi n:Nat}{b:Option dc}{x:ai}:oT P (qL size qi n b x):=by
 unfold qL
 have rest:∀there:Bool,oT P (if (!there)=true then(pure true:iZ Bool) else match x with
   |.slice (some c) _ _=>do pure (!(<-Builtin.holdsCells c (n*size))||b.any (·.block==c.block))
   |_=>pure false):=by
  intro there;split
  .exact nJ
  split
  .exact A7.bind fun _=>nJ
  exact nJ
 cases b with
 |none=>exact nJ.bind rest
 |some a=>exact A7.bind fun _=>Ij.bind fun _=>nJ.bind rest
theorem OM{x x':ai}(h:VR F U x x'):cj P F (Same U fun _=>True) U (Ev x) (Ev x'):=by
 cases h<;>first|exact bj|exact dr
theorem qh{x x':ai}(h:VR F U x x')(size n:Nat):cj P F (At U (jg F U)) U (eU size n x) (eU size n x'):=by
 cases h<;>first|exact bj|exact .dH .nil|exact wJ ‹_› _|exact .dH (jg.map fun _ _=>.int _ _)
theorem LC{z z':Array ai}(h:jg F U z z')(n:Nat):jg F U (f_ z n) (f_ z' n):=by
 unfold f_;rw[<-h.size];have:=JD h (n*z.size);rw[<-h.size] at this;exact this
theorem J1{n:Nat}:cj P F (At U fun _ _=>True) U (askRoom n) (askRoom n):=by
 unfold askRoom;split
 .exact .noRoom (.dH trivial)
 exact .dH trivial
def okZ(P:aK)(t?:Option aV):Bool:=match t? with|some t=>(match P.underlying t with|some (.int _)=>false|_=>true)|none=>true
def Va(P:aK)(ts:Array aV):Bool:=
 (match ts[0]? with|some t=>Am P t|none=>true)&&okZ P ts[1]?
theorem OI{t?:Option aV}(ht:okZ P t?=true){J J':Bool->iZ ai}(h:cj P F (VR F) U (J false) (J' false)) :
  cj P F (VR F) U (match (generalizing:=false) t? with|some t=>jr t >>= fun d=>(fo (match d with|.int _=>true|_=>false):iZ Bool) >>= J|none=>(fo false:iZ Bool) >>= J)
   (match (generalizing:=false) t? with|some t=>jr t >>= fun d=>(fo (match d with|.int _=>true|_=>false):iZ Bool) >>= J'|none=>(fo false:iZ Bool) >>= J'):=by
 cases t? with
 |none=>exact h
 |some t1=>
  refine dE.bK fun d1 hd1=>?_;simp only[okZ,hd1] at ht;cases d1<;>first|(cases ht;done)|exact h
theorem Me{ts:Array aV}(ht:Va P ts=true){t:aV}{l m:Array ai}(h:jg F U l m):cj P F (VR F) U (kO ts t l) (kO ts t m):=by
 unfold kO;simp only[Va,aI] at ht;obtain⟨KF,tO⟩:=ht;cases hx:l[0]? with
 |none=>cases ts[0]?<;>exact bj
 |some s=>
  obtain⟨s',hs',hsv⟩:=h.get hx;rw[hs'];cases h0:ts[0]? with
  |none=>exact bj
  |some t0=>
   cases hx1:l[1]? with
   |none=>exact bj
   |some x=>
    obtain⟨x',hx',hxv⟩:=h.get hx1;rw[hx'];rw[h0] at KF;simp only at KF;dsimp only;refine dE.bK fun ds M9=>?_;cases ds<;>first|exact bj|skip
    rename_i e;simp only[Am,M9] at KF;dsimp only
    have main:∀ {b b':Option dc} (sl sc:Nat),VR F U (.slice b sl sc) (.slice b' sl sc)->cj P F (VR F) U
      (do
        let size <-sizeOf e
        let zeros <-match ts[1]? with
         |some xType=>do pure ((<-jr xType) matches .int _)
         |none=>pure false
        let n <-if zeros then do
          let l:=IntKind.i64.wrap (<-asInt x)
          if l<0 then eO (.error "makeslice: len out of range")
          if l*(<-lG e).bytes>2 ^ 48 then
           let made <-Bp (.extern "append.ofMake.carriedOut" 2)
           eO (.error (if made==1 then "makeslice: len out of range" else "growslice: len out of range"))
          pure l.toNat
         else Ev x
        let appended:iZ (Array ai):=
         if !zeros then eU size n x
         else if n*size=0 then pure #[]
         else do pure (f_ (<-jl e).cells n)
        let need:=sl+n
        if need<=sc then
         let new <-appended
         if let some a:=b then storeCells (a.add (sl*size)) new.toList
         pure (.slice b need sc)
        else
         if (need:Int)>IntKind.i64.max/\(zeros\/(<-lG e).bytes=0) then eO (.error "growslice: len out of range")
         if Builtin.nextslicecap need sc*(<-lG e).bytes>2 ^ 48 then(if zeros then eO (.error "growslice: len out of range") else do
          if !(<-qL size sl n b x) then mark .noRoom
          rY (.resourceLimit "append: a slice or a string whose bytes no memory bears"))
         let nh <-Bp (.appendCap need sc e)
         askRoom (nh*(<-lG e).bytes)
         let old <-eU size sl (.slice b sl sc);let new <-appended;let rest:=f_ (<-jl e).cells (nh-need)
         pure (.slice (some (<-newRow e (old++new++rest))) need nh))
      (do
        let size <-sizeOf e
        let zeros <-match ts[1]? with
         |some xType=>do pure ((<-jr xType) matches .int _)
         |none=>pure false
        let n <-if zeros then do
          let l:=IntKind.i64.wrap (<-asInt x')
          if l<0 then eO (.error "makeslice: len out of range")
          if l*(<-lG e).bytes>2 ^ 48 then
           let made <-Bp (.extern "append.ofMake.carriedOut" 2)
           eO (.error (if made==1 then "makeslice: len out of range" else "growslice: len out of range"))
          pure l.toNat
         else Ev x'
        let appended:iZ (Array ai):=
         if !zeros then eU size n x'
         else if n*size=0 then pure #[]
         else do pure (f_ (<-jl e).cells n)
        let need:=sl+n
        if need<=sc then
         let new <-appended
         if let some a:=b' then storeCells (a.add (sl*size)) new.toList
         pure (.slice b' need sc)
        else
         if (need:Int)>IntKind.i64.max/\(zeros\/(<-lG e).bytes=0) then eO (.error "growslice: len out of range")
         if Builtin.nextslicecap need sc*(<-lG e).bytes>2 ^ 48 then(if zeros then eO (.error "growslice: len out of range") else do
          if !(<-qL size sl n b' x') then mark .noRoom
          rY (.resourceLimit "append: a slice or a string whose bytes no memory bears"))
         let nh <-Bp (.appendCap need sc e)
         askRoom (nh*(<-lG e).bytes)
         let old <-eU size sl (.slice b' sl sc);let new <-appended;let rest:=f_ (<-jl e).cells (nh-need)
         pure (.slice (some (<-newRow e (old++new++rest))) need nh)):=by
     intro b b' sl sc hb;refine ie.bK fun size _=>?_;refine OI tO ?_;simp only[bF,if_false,false_or,Bool.not_false,if_true];refine(OM hxv).bK fun n _=>?_;split
     .refine(qh hxv size n).dT fun new ait hn=>?_;cases hb with
      |FI=>exact .pure (.FI _ _)
      |slice _ _ ha=>exact(vC (ha.add _) hn.list 0).dT fun _ _ _=>.pure (.slice _ _ ha)
     refine jN.bK fun i _=>?_;split
     .exact .dead ((qw sN sN).bind _)
     refine jN.bK fun i _=>?_;split
     .refine .dead ?_;refine rQ.bind (Ei.Gk fun a=>?_) _;cases a
      .exact oT.Gk (s:=mark .noRoom) (fun w es=>.inl ⟨(),w,_,rfl⟩) fun _=>fL sN
      exact fL sN
     refine wL.bK fun cap _=>jN.bK fun i _=>J1.dT fun _ _ _=>?_;refine(qh hb size sl).dT fun old ao_ ho=>(qh hxv size n).dT fun new ait hn=>?_;refine(lV KF).dT fun z z' hz=>?_;exact cj.bind (wI ((ho.append hn).append (LC hz.cells _))) fun U' a a' _ ha=>.pure (.slice _ _ ha)
    cases hsv with
    |FI sl sc=>exact main sl sc (.FI _ _)
    |slice sl sc ha=>exact main sl sc (.slice _ _ ha)
    |_=>exact bj
inductive NR(F:Nat->Bool)(U:Rn):Next->Next->Prop
 |value {v v':ai}:VR F U v v'->NR F U (.value v) (.value v')
 |skip:NR F U .skip .skip
 |enter {f:en} {l m:Array ai}:F f=true->jg F U l m->NR F U (.enter f l) (.enter f m)
 |send {ch v:ai} {n:Next}:NR F U (.comm #[{ chan:=ch,send:=some v,zero:=.tuple #[] }] true .send) n
theorem oC{s s':iZ ai}(h:cj P F (VR F) U s s'):cj P F (NR F) U (do pure (.value (<-s))) (do pure (.value (<-s'))):=h.bind fun U' v v' _ hv=>.pure (.value hv)
theorem iG{s s':iZ ai}(h:cj P F (At U (VR F U)) U s s'):cj P F (NR F) U (do pure (.value (<-s))) (do pure (.value (<-s'))):=h.dT fun v v' hv=>.pure (.value hv)
theorem C_{s s':iZ Unit}(h:cj P F (At U fun _ _=>True) U s s'):cj P F (NR F) U (do s;pure .skip) (do s';pure .skip):=h.dT fun _ _ _=>.pure .skip
def XL(P:aK)(F:Nat->Bool):Prop:=∀f,F f=true->∃fn,P.funcs[f]?=some fn/\fn.body.isSome=true/\(fn.name == "runtime.NumGoroutine")=false
theorem Ht(hF:XL P F){f:en}(hf:F f=true){l m:Array ai}(h:jg F U l m):cj P F (NR F) U (callFunc f l) (callFunc f m):=by
 obtain⟨fn,h1,h2,h3⟩:=hF f hf;unfold callFunc;refine kV ?_;have h4:fn.body.isNone=false:=by cases hb:fn.body<;>simp_all
 simp only[h1,h3,h4,bF,if_false];exact .pure (.enter hf h)
def BO(F:Nat->Bool):bI->Bool
 |.tmp _=>true
 |.const v=>Ge v
 |.global _=>false
 |.func f=>F f
def okB(P:aK)(ts:Array aV):Builtin->Bool
 |.append=>Va P ts
 |.len=>U_ P ts
 |.max|.min=>true
 |_=>false
def isInt:bI->Bool
 |.const (.int _ _)=>true
 |_=>false
def ae2(P:aK)(t:aV):Bool:=P.underlying t matches some (.int _)
def YH(P:aK)(F:Nat->Bool)(op:Op):Bool:=op.operands.all (BO F)&&match op with
 |.move _|.assign _|.pick ..|.box ..|.load ..|.store ..|.indexAddr ..|.index ..|.extract ..|.send ..=>true
 |.alloc e=>o8 P e
 |.build t _=>o8 P t
 |.buildSlice t _ _=>Am P t
 |.binOp op t _ y _=>ae2 P t&&(aaf op||((op matches .eql | .neq)&&isInt y))
 |.makeFunc (.func f) _ _=>F f
 |.makeMap _ none=>true
 |.fieldAddr s _ f=>Kg P s f
 |.lookup t _ _ _=>U9 P t
 |.mapUpdate t _ _ _=>Pb P t
 |.call c=>(match c.callee with|.builtin b=>okB P c.argTypes b|.value _=>true|.invoke ..=>false)
 |_=>false
theorem kH{fr fr':bY}(h:jg F U fr.tmps fr'.tmps){x:bI}(hx:BO F x=true):VR F U (fr.eval x) (fr'.eval x):=by
 cases x with
 |tmp t=>exact h.getD uO t
 |const v=>exact AL hx
 |global g=>cases hx
 |func f=>exact .func hx rfl (fun i x y h=>by simp at h) rfl (fun i x y h=>by simp at h)
theorem abw{fr fr':bY}(h:jg F U fr.tmps fr'.tmps){l:Array bI}(hl:l.all (BO F)=true):jg F U (l.map fr.eval) (l.map fr'.eval):=
 jg.map fun x hx=>kH h (kG.1 hl x hx)
theorem O9{fr fr':bY}(h:jg F U fr.tmps fr'.tmps):∀ {l:List (Nat × bI)},(l.all fun p=>BO F p.2)=true->
  PL F U (l.map fun(i,x)=>(i,fr.eval x)) (l.map fun(i,x)=>(i,fr'.eval x))
 |[],_=>.nil
 |(i,x)::l,hl=>by
  simp only[ej,aI] at hl;exact .cons (kH h hl.1) (O9 h hl.2)
theorem Mb(hF:XL P F)(R:Xv P U){fr fr':bY}(h:jg F U fr.tmps fr'.tmps){o:Oper}(ho:YH P F o.op=true):cj P F (NR F) U (cC fr.eval o) (cC fr'.eval o):=by
 unfold YH at ho;rw[aI] at ho;obtain⟨h1,h2⟩:=ho;unfold cC;obtain⟨dst,op,type,pos,after,guard⟩:=o;dsimp only at h1 h2 ⊢;cases op<;>first|(cases h2;done)|skip
 all_goals simp only[Op.operands,List.all_toArray,ej,List.all_nil,Bool.and_true,aI] at h1
 case move x=>exact .pure (.value (kH h h1))
 case assign x=>exact .pure (.value (kH h h1))
 case pick c a b=>
  refine cj.bK (C:=fun _=>True) (s:=asBool (fr.eval c)) (s':=asBool (fr'.eval c)) ?_ fun t _=>?_
  .have hc:=kH h h1.1;revert hc;generalize fr.eval c=v;generalize fr'.eval c=v';intro hc;cases hc<;>first|exact bj|exact dr
  cases t
  .exact cj.pure (NR.value (kH h h1.2.2))
  exact cj.pure (NR.value (kH h h1.2.1))
 case alloc e=>exact oC (OT h2)
 case box e x=>exact oC (UI (kH h h1))
 case build t ps=>
  refine iG (OP h2 ?_);simp only[xr];exact O9 h (by simpa [List.all_map,Function.comp_def] using h1)
 case buildSlice t n ps=>
  refine oC (D8 h2 ?_);simp only[xr];exact O9 h (by simpa [List.all_map,Function.comp_def] using h1)
 case load t a=>exact iG (L8 (kH h h1))
 case store t a v=>exact C_ (JU (kH h h1.1) (kH h h1.2))
 case binOp op t x y yt=>
  simp only[aI,Bool.or_eq_true] at h2;have hx:=kH h h1.1;have hy:=kH h h1.2
  have ht:∃k,P.underlying t=some (.int k):=by
   have:=h2.1;unfold ae2 at this;split at this
   .exact⟨_,‹_›⟩
   cases this
  obtain⟨k,ht⟩:=ht;refine oC ?_;rcases h2.2 with hop|⟨hop,hint⟩
  .have e:∀a b,eqGuard op t x y a b=fo ():=fun a b=>by cases op<;>first|rfl|cases hop
   rw[e,e];exact OQ R ht hop hx hy
  have hyi:∃k n,y=.const (.int k n):=by
   unfold isInt at hint;split at hint
   .exact⟨_,_,rfl⟩
   cases hint
  obtain⟨ky,ny,rfl⟩:=hyi;have hy1:fr.eval (.const (.int ky ny))=.int ky ny:=rfl;have hy2:fr'.eval (.const (.int ky ny))=.int ky ny:=rfl;rw[hy1,hy2] at *
  have e:∀a,eqGuard op t x (.const (.int ky ny)) a (.int ky ny)=fo ():=fun a=>by
   have abS:op=.eql\/op=.neq:=by cases op<;>first|exact .inl rfl|exact .inr rfl|cases hop
   rcases abS with rfl|rfl<;>cases a<;>rfl
  rw[e,e];show cj P F (VR F) U (binOp op t (fr.eval x) (.int ky ny)) (binOp op t (fr'.eval x) (.int ky ny));generalize fr.eval x=v at hx ⊢;generalize fr'.eval x=v' at hx ⊢;have hpl:ql P 1 t=true:=by simp only[ql,ht]
  have heq:=qA R 1 Op.maxDepth t hpl v v' _ _ hx (.int (F:=F) (U:=U) ky ny);have abS:op=.eql\/op=.neq:=by cases op<;>first|exact .inl rfl|exact .inr rfl|cases hop
  rcases abS with rfl|rfl
  .cases hx<;>first
    |exact wK
    |exact heq.bK fun b _=>.pure (.bool _)
  cases hx<;>first
   |exact wK
   |exact heq.bK fun b _=>.pure (.bool _)
 case makeFunc fn fs cs=>
  cases fn<;>first|(cases h2;done)|skip
  rename_i f;simp only[Array.all_append,aI] at h1;have e1:=abw h h1.1;have e2:=abw h h1.2;exact .pure (NR.value (.func h2 e1.size e1.at_ e2.size e2.at_))
 case makeMap t r=>
  cases r<;>first|(cases h2;done)|skip
  exact oC JW
 case fieldAddr s x f=>exact iG (JZ h2 (kH h h1))
 case indexAddr t x i=>exact iG (JY (kH h h1.1) (kH h h1.2))
 case index t x i=>exact iG (OO (kH h h1.1) (kH h h1.2))
 case lookup t x i ok=>exact iG (L6 R h2 (kH h h1.1) (kH h h1.2) ok)
 case mapUpdate t m k v=>exact C_ (E5 R h2 (kH h h1.1) (kH h h1.2.1) (kH h h1.2.2))
 case send ch x=>exact cj.pure NR.send
 case extract x i=>exact iG (J0 (kH h h1) i)
 case call c=>
  obtain⟨callee,args,ats⟩:=c;simp only[Call.operands,Array.all_append,aI] at h1;have ha:=abw h h1.2;dsimp only at h2;cases callee<;>first|(cases h2;done)|skip
  case builtin b=>
   cases b<;>first|(cases h2;done)|skip
   .exact oC (Me h2 ha)
   .exact iG (UH h2 ha)
   .exact iG (UG ha)
   exact iG (UF ha)
  case value f=>
   have hf:=kH h (x:=f) (by simpa using h1.1);unfold resolve;dsimp only;revert hf;generalize fr.eval f=v;generalize fr'.eval f=v';intro hf;cases hf<;>first|exact bj|exact gT (e:=.nilDeref)|skip
   rename_i f fs fs' cs cs' hFf h3 h4 h5 h6;exact Ht hF hFf (((jg.mk h3 h4).append ha).append ⟨h5,h6⟩)
end
def QS(P:aK)(F:Nat->Bool)(o:Oper):Bool:=YH P F o.op
def iT(P:aK)(F:Nat->Bool):Code->Bool
 |.skip|.exit _|.label _|.ret=>true
 |.region _ aM _=>aM.all (QS P F)
 |.seq a b=>iT P F a&&iT P F b
 |.cond c a b=>BO F c&&iT P F a&&iT P F b
 |.block _ c|.loop c=>iT P F c
 |_=>false
def jd(P:aK)(F:Nat->Bool):qq->Bool
 |.code c|.inLoop c=>iT P F c
 |.inBlock _=>true
 |.inRegion aM _=>aM.all (QS P F)
 |_=>false
structure vQ(P:aK)(F:Nat->Bool):Prop where
 text:∀f,F f=true->∃fn c,P.funcs[f]?=some fn/\fn.body=some c/\iT P F c=true/\(fn.name == "runtime.NumGoroutine")=false
def vQ.body{P:aK}{F:Nat->Bool}(h:vQ P F):XL P F:=fun f hf=>by
 obtain⟨fn,c,h1,h2,_,h3⟩:=h.text f hf;exact⟨fn,h1,by rw[h2];rfl,h3⟩
def jF(fn:en)(tmps:Array ai)(todo:List qq)(mode:FrameMode)(kd:kC):Frame:={ fn,tmps,todo,defers:=[],mode,kind:=kd,roundOf:=none }
abbrev Fr(fn:en)(tmps:Array ai)(todo:List qq)(mode:FrameMode):Frame:=jF fn tmps todo mode .normal
inductive FR(P:aK)(F:Nat->Bool)(U:Rn)(k:List qq)(kd:kC):bY->bY->Prop
 |run {fn:en} {tmps bB:Array ai} {todo:List qq}:jg F U tmps bB->todo.all (jd P F)=true->FR P F U k kd (Fr fn tmps todo .run) (jF fn bB (todo++k) .run kd)
 |ret {fn:en} {tmps bB:Array ai} {todo QC:List qq}:jg F U tmps bB->FR P F U k kd (Fr fn tmps todo .returning) (jF fn bB QC .returning kd)
def FR.mono{P:aK}{F:Nat->Bool}{U U':Rn}{k:List qq}{kd:kC}{fr fr':bY}(h:FR P F U k kd fr fr')(hl:Rn.le U U'):FR P F U' k kd fr fr':=by
 cases h with
 |run h1 h2=>exact .run (h1.mono hl) h2
 |ret h1=>exact .ret (h1.mono hl)
def FR.defers{P:aK}{F:Nat->Bool}{U:Rn}{k:List qq}{kd:kC}{fr fr':bY}(h:FR P F U k kd fr fr'):fr.defers=[]:=by cases h<;>rfl
def FR.kinds{P:aK}{F:Nat->Bool}{U:Rn}{k:List qq}{kd:kC}{fr fr':bY}(h:FR P F U k kd fr fr'):fr.kind=.normal/\fr'.kind=kd:=by cases h<;>exact⟨rfl,rfl⟩
inductive SR(P:aK)(F:Nat->Bool)(U:Rn)(k:List qq)(kd:kC)(cs:List bY):bY->List bY->bY->List bY->Prop
 |base {fr fr':bY}:FR P F U k kd fr fr'->P.inits.idxOf? fr.fn=none->SR P F U k kd cs fr [] fr' cs
 |up {fr fr' c c':bY} {r r':List bY}:FR P F U [] .normal fr fr'->c.todo≠[]->c.mode=.run->SR P F U k kd cs c r c' r'->SR P F U k kd cs fr (c::r) fr' (c'::r')
def SR.mono{P:aK}{F:Nat->Bool}{U U':Rn}{k:List qq}{kd:kC}{cs:List bY}{fr fr':bY}{l l':List bY}(h:SR P F U k kd cs fr l fr' l')(hl:Rn.le U U'):SR P F U' k kd cs fr l fr' l':=by
 induction h with
 |base h1 h2=>exact .base (h1.mono hl) h2
 |up h1 h2 h3 _ ih=>exact .up (h1.mono hl) h2 h3 ih
def SR.defers{P:aK}{F:Nat->Bool}{U:Rn}{k:List qq}{kd:kC}{cs:List bY}{fr fr':bY}{l l':List bY}(h:SR P F U k kd cs fr l fr' l'):fr.defers=[]/\∀c∈l,c.defers=[]:=by
 induction h with
 |base h1 h2=>exact⟨h1.defers,sN⟩
 |up h1 h2 h3 _ ih=>
  refine⟨h1.defers,fun c hc=>?_⟩;rcases bQ.1 hc with rfl|hc
  .exact ih.1
  exact ih.2 c hc
def Qp(g:aC):Prop:=g.dying≠none\/g.status≠.running\/∃chain,g.frame.mode=.panicking chain/\g.frame.defers=[]/\∀c∈g.callers,c.defers=[]
section
variable{P:aK}{F:Nat->Bool}{G':Nat}{B:Nat->Prop}{U:Rn}{k:List qq}{kd:kC}{cs:List bY}{lw w:ak}{main:Bool}
theorem raise_mode(fr:bY)(c:List PanicEntry):∃ch,(fr.raise c).mode=.panicking ch/\(fr.raise c).defers=fr.defers:=by
 unfold Frame.raise;cases fr.mode<;>exact⟨_,rfl,rfl⟩
theorem RZ{g:aC}(h:Qp g)(hd:g.dying=none)(hr:g.status=.running):(∃o w1 es,fE P true g lw=.ended o w1 es)\/∃g1 w1 es,fE P true g lw=.go g1 w1 es/\Qp g1:=by
 rcases h with h|h|⟨chain,h1,h2,h3⟩
 .exact absurd hd h
 .exact absurd hr h
 obtain⟨fr,cs,st,dy,off⟩:=g;obtain⟨fn,tmps,todo,defers,mode,kind,roundOf⟩:=fr;dsimp only at hd hr h1 h2 h3;subst hd;subst h1;subst h2;have e:fE P true ⟨⟨fn,tmps,todo,[],.panicking chain,kind,roundOf⟩,cs,st,none,off⟩ lw=mM P true ⟨fn,tmps,todo,[],.panicking chain,kind,roundOf⟩ cs none lw:=by unfold fE;rfl
 rw[e];unfold mM;dsimp only;split
 .exact .inl ⟨_,_,_,rfl⟩
 .cases cs with
  |cons c r=>
   obtain⟨ch,e1,e2⟩:=raise_mode c chain;exact .inr ⟨_,_,_,rfl,.inr (.inr ⟨ch,e1,e2.trans (h3 c sN),fun x hx=>h3 x (by simp[hx])⟩)⟩
  |nil=>
   dsimp only;split
   .exact .inr ⟨_,_,_,rfl,.inr (.inl sN)⟩
   split
   .exact .inr ⟨_,_,_,rfl,.inl sN⟩
   .exact .inl ⟨_,_,_,rfl⟩
   exact .inl ⟨_,_,_,rfl⟩
def JH(P:aK)(F:Nat->Bool)(G':Nat)(B:Nat->Prop)(U:Rn)(k:List qq)(kd:kC)(cs:List bY)(lw w:ak)(s s':GStep):Prop:=
 (∃o lg es,s=.ended o lg es)\/(∃g1 lg es,s=.go g1 lg es/\Qp g1)\/
 (∃g1 ch v lg es,s=.comm g1 #[{ chan:=ch,send:=some v,zero:=.tuple #[] }] true .send lg es/\∀(b:Nat) (o:Obj),lg.heap[b]?=some o->o.isChan=false)\/
 ∃Ib l1 lg es x_ YU w1 evs ρ1,s=.go (G Ib l1) lg es/\s'=.go (G x_ YU) w1 evs/\SR P F ρ1 k kd cs Ib l1 x_ YU/\np F G' B U lw w ρ1 lg w1 evs
theorem gS(hw:WR F G' B U lw w){Ib x_:bY}{l1 YU:List bY}(h:SR P F U k kd cs Ib l1 x_ YU){s s':GStep}(e:s=.go (G Ib l1) lw #[])(e':s'=.go (G x_ YU) w #[]):JH P F G' B U k kd cs lw w s s':=
 .inr (.inr (.inr ⟨_,_,_,_,_,_,_,_,U,e,e',h,.refl hw⟩))
theorem np.seen{U':Rn}{eP w':ak}{es:Array gO}(h:np F G' B U lw w U' eP w' es)(fn:en):np F G' B U lw w U' eP w' (seen P fn es++#[]):=
 h.more fun e he=>h.evs e (mem_seen (by simpa using he))
theorem SR.set{fr fr' Ib x_:bY}{l l':List bY}(h:SR P F U k kd cs fr l fr' l')(hfn:Ib.fn=fr.fn)(h0:l=[]->FR P F U k kd fr fr'->FR P F U k kd Ib x_)(h1:l≠[]->FR P F U [] .normal fr fr'->FR P F U [] .normal Ib x_):SR P F U k kd cs Ib l x_ l':=by
 cases h with
 |base h h'=>exact .base (h0 rfl h) (hfn▸h')
 |up h a b r=>exact .up (h1 sN h) a b r
theorem mH{x:qq}{t:List qq}(h:(x::t).all (jd P F)=true):jd P F x=true/\t.all (jd P F)=true:=by simpa using h
theorem iW{x:qq}{t:List qq}(h:jd P F x=true)(h':t.all (jd P F)=true):(x::t).all (jd P F)=true:=by simp[h];simpa using h'
theorem zq{id:Nat}{k:List qq}:∀ {t t':List qq},exitTo id t=some t'->exitTo id (t++k)=some (t'++k)
 |[],t',h=>by cases h
 |x::t,t',h=>by
  cases x<;>simp only[fq,exitTo] at h ⊢<;>first|exact zq h|skip
  split at h
  .rename_i hh;rw[if_pos hh];cases h;rfl
  rename_i hh;rw[if_neg hh];exact zq h
theorem zo{id:Nat}:∀ {t t':List qq},t.all (jd P F)=true->exitTo id t=some t'->t'.all (jd P F)=true
 |[],t',ht,h=>by cases h
 |x::t,t',ht,h=>by
  have ht':=(mH ht).2;cases x<;>simp only[exitTo] at h<;>first|exact zo ht' h|skip
  split at h
  .cases h;exact ht'
  exact zo ht' h
theorem EG{fn:en}{tmps bB:Array ai}{aM:Array Oper}{i:Nat}{rest:List Nat}{t k:List qq}(h:jg F U tmps bB)(ht:(Item.inRegion aM (i::rest)::t).all (jd P F)=true){v v':ai}(hv:VR F U v v') :
  FR P F U k kd ((Fr fn tmps (.inRegion aM (i::rest)::t) .run).finish v) ((jF fn bB (.inRegion aM (i::rest)::t++k) .run kd).finish v'):=by
 unfold Frame.finish Fr jF;simp only[fq];have Ea:(Item.inRegion aM rest::t).all (jd P F)=true:=iW (mH ht).1 (mH ht).2;cases(aM[i]?).bind (·.dst) with
 |none=>exact .run (todo:=.inRegion aM rest::t) h Ea
 |some d=>exact .run (todo:=.inRegion aM rest::t) (h.set hv d) Ea
theorem Ck(fr:bY)(v:ai):(fr.finish v).fn=fr.fn:=by
 unfold Frame.finish;split<;>rfl
end
section
variable{P:aK}{F:Nat->Bool}{B:Nat->Prop}{U:Rn}{k:List qq}{kd:kC}{cs:List bY}{lw w:ak}{main:Bool}
theorem WR.rok(h:WR F P.globals.size B U lw w):Xv P U:=⟨h.inj,h.low⟩
theorem Ww(hF:vQ P F){f:en}(hf:F f=true){l m:Array ai}(h:jg F U l m):FR P F U [] .normal (eL P f l .normal) (eL P f m .normal):=by
 obtain⟨fn,c,h1,h2,h3,_⟩:=hF.text f hf;unfold eL;simp only[h1,dK,Option.getD_some,gZ,h2];have:=FR.run (P:=P) (F:=F) (U:=U) (k:=[]) (kd:=.normal) (fn:=f) (todo:=[.code c]) (h.append (jg.replicate uO (fn.ntmps-l.size))) (by simpa [jd] using h3);rw[h.size] at this;rw[h.size];exact this
theorem opR(hF:vQ P F)(hw:WR F P.globals.size B U lw w)(ht:xo lw w)(hG:P.globals.size<=lw.heap.size)(hG2:P.globals.size<=w.heap.size)
  {fn:en} {tmps bB:Array ai} {aM:Array Oper} {i:Nat} {rest:List Nat} {t t':List qq} {l l':List bY} (hto:(Item.inRegion aM (i::rest)::t).all (jd P F)=true)
  (hT:t'=t++(if l=[] then k else[])) {kk:kC} (hK:kk=if l=[] then kd else .normal) (hE:kd≠.early)
  (h:SR P F U k kd cs (Fr fn tmps (.inRegion aM (i::rest)::t) .run) l (jF fn bB (.inRegion aM (i::rest)::t') .run kk) l') (ha:jg F U tmps bB) {o:Oper} (ho:aM[i]?=some o) :
  JH P F P.globals.size B U k kd cs lw w (eH P true (Fr fn tmps (.inRegion aM (i::rest)::t) .run) l none (cC (Fr fn tmps (.inRegion aM (i::rest)::t) .run).eval o) lw)
   (eH P true (jF fn bB (.inRegion aM (i::rest)::t') .run kk) l' none (cC (jF fn bB (.inRegion aM (i::rest)::t') .run kk).eval o) w):=by
 have dp:YH P F o.op=true:=by
  have:=(mH hto).1;exact kG.1 this o (fB ho)
 have hs:=Mb hF.body hw.rok (fr:=Fr fn tmps (.inRegion aM (i::rest)::t) .run) (fr':=jF fn bB (.inRegion aM (i::rest)::t') .run kk) ha dp
 have qF:∀ {U':Rn} {v v':ai},Rn.le U U'->VR F U' v v'->SR P F U' k kd cs ((Fr fn tmps (.inRegion aM (i::rest)::t) .run).finish v) l ((jF fn bB (.inRegion aM (i::rest)::t') .run kk).finish v') l':=by
  intro U' v v' hle hv;refine(h.mono hle).set (Ck _ _) (fun hl _=>?_) fun hl _=>?_
  .rw[if_pos hl] at hT hK;subst hT;subst hK;exact EG (k:=k) (ha.mono hle) hto hv
  rw[if_neg hl] at hT hK;subst hT;subst hK;exact EG (k:=[]) (ha.mono hle) hto hv
 rcases hs.runT hw ht hG hG2 #[] #[] with⟨a,lg,le,b,w1,evs,ρ1,h1,h2,h3,h4⟩|⟨e,lg,le,h1,h2⟩
 .simp only[fD] at h2
  have Zd:(kk == .early)=false:=by
   rw[hK];split
   .exact beq_eq_false_iff_ne.2 hE
   rfl
  unfold eH;simp only[if_true,h1,h2];simp only[jF,Zd,bF,if_false];cases h3 with
  |value hv=>
   refine .inr (.inr (.inr ⟨_,_,_,_,_,_,_,_,ρ1,rfl,rfl,qF h4.le hv,?_⟩));exact h4.seen fn
  |skip=>
   refine .inr (.inr (.inr ⟨_,_,_,_,_,_,_,_,ρ1,rfl,rfl,qF h4.le uO,?_⟩));exact h4.seen fn
  |enter hf aaG=>
   refine .inr (.inr (.inr ⟨_,_,_,_,_,_,_,_,ρ1,rfl,rfl,.up (Ww hF hf aaG) (by simp[Fr]) rfl (h.mono h4.le),?_⟩));exact h4.seen fn
  |send=>exact .inr (.inr (.inl ⟨_,_,_,_,_,rfl,h4.wr.Kj⟩))
 .unfold eH;simp only[if_true,h1];have hd:=h.defers;cases e with
  |panic v=>
   obtain⟨ch,e1,e2⟩:=raise_mode (Fr fn tmps (.inRegion aM (i::rest)::t) .run) [{ v,recovered:=false }];exact .inr (.inl ⟨_,_,_,rfl,.inr (.inr ⟨ch,e1,e2.trans hd.1,hd.2⟩)⟩)
  |stuck s=>exact .inl ⟨_,_,_,rfl⟩
  |unsupported u=>
   cases u<;>first|exact absurd h2 id|exact .inl ⟨_,_,_,rfl⟩
  |_=>exact absurd h2 id
theorem SR.top{fr fr':bY}{l l':List bY}(h:SR P F U k kd cs fr l fr' l'):FR P F U (if l=[] then k else[]) (if l=[] then kd else .normal) fr fr':=by
 cases h with
 |base h _=>simpa using h
 |up h _ _ _=>simpa using h
theorem SR.set'{fr fr' Ib x_:bY}{l l':List bY}(h:SR P F U k kd cs fr l fr' l')(hfn:Ib.fn=fr.fn)(h1:FR P F U (if l=[] then k else[]) (if l=[] then kd else .normal) Ib x_):SR P F U k kd cs Ib l x_ l':=
 h.set hfn (fun hl _=>by simpa [hl] using h1) fun hl _=>by simpa [hl] using h1
theorem Ur{tmps bB:Array ai}(ha:jg F U tmps bB)(aM:Array Oper):yielded aM bB=yielded aM tmps:=by
 funext j
 unfold yielded;cases(aM[j]?).bind (·.dst) with
 |none=>rfl
 |some d=>
  simp only[gZ];cases hx:tmps[d]? with
  |none=>rw[ha.none hx]
  |some x=>
   obtain⟨y,hy,hv⟩:=ha.get hx;rw[hy];cases hv<;>rfl
theorem agn(hF:vQ P F)(hw:WR F P.globals.size B U lw w)(ht:xo lw w)(hG:P.globals.size<=lw.heap.size)(hG2:P.globals.size<=w.heap.size)
  {fn:en} {tmps bB:Array ai} {todo:List qq} {l l':List bY} (h:SR P F U k kd cs (Fr fn tmps todo .run) l (jF fn bB (todo++if l=[] then k else[]) .run (if l=[] then kd else .normal)) l') (hE:kd≠.early)
  (ha:jg F U tmps bB) (dp:todo.all (jd P F)=true) (hk:l=[]->todo=[]->k=[]) :
  JH P F P.globals.size B U k kd cs lw w (cM P true true (Fr fn tmps todo .run) l none lw) (cM P main true (jF fn bB (todo++if l=[] then k else[]) .run (if l=[] then kd else .normal)) l' none w):=by
 have rU:todo=[]->(if l=[] then k else[])=[]:=fun e=>by
  split
  .rename_i hl;exact hk hl e
  rfl
 generalize tP:(if l=[] then k else[])=kk at h rU ⊢;generalize Ee:(if l=[] then kd else CallKind.normal)=Lv at h ⊢;have D6:∀t:List qq,t.all (jd P F)=true->SR P F U k kd cs (Fr fn tmps t .run) l (jF fn bB (t++kk) .run Lv) l':=fun t hto=>h.set' rfl (by rw[tP,Ee];exact .run ha hto);have aej:∀t t':List qq,SR P F U k kd cs (Fr fn tmps t .returning) l (jF fn bB t' .returning Lv) l':=fun t t'=>h.set' rfl (by rw[Ee];exact .ret ha);cases todo with
 |nil=>
  rw[rU rfl] at h ⊢;exact gS hw (aej [] []) rfl rfl
 |cons x t=>
  obtain⟨hx,KF⟩:=mH dp;cases x with
  |inBlock id=>exact gS hw (D6 t KF) rfl rfl
  |inLoop c=>exact gS hw (D6 (.code c::.inLoop c::t) (iW hx (iW hx KF))) rfl rfl
  |inRegion aM todo=>
   cases todo with
   |nil=>exact gS hw (D6 t KF) rfl rfl
   |cons i rest=>
    have hy:=Ur ha aM
    by_cases hwn:((aM[i]?).map (Region.wanted · (yielded aM tmps))).getD false=true
    .have e1:cM P true true (Fr fn tmps (.inRegion aM (i::rest)::t) .run) l none lw=fC P true (Fr fn tmps (.inRegion aM (i::rest)::t) .run) l none lw:=if_pos hwn
     have e2:cM P main true (jF fn bB (.inRegion aM (i::rest)::t++kk) .run Lv) l' none w=fC P true (jF fn bB (.inRegion aM (i::rest)::(t++kk)) .run Lv) l' none w:=by
      rw[<-hy] at hwn;exact if_pos hwn
     rw[e1,e2];cases ho:aM[i]? with
     |none=>rw[ho] at hwn;cases hwn
     |some o=>
      have e3:fC P true (Fr fn tmps (.inRegion aM (i::rest)::t) .run) l none lw=eH P true (Fr fn tmps (.inRegion aM (i::rest)::t) .run) l none (cC (Fr fn tmps (.inRegion aM (i::rest)::t) .run).eval o) lw:=by
       unfold fC;have:(Fr fn tmps (.inRegion aM (i::rest)::t) .run).oper?=some o:=ho;rw[this];rfl
      have e4:fC P true (jF fn bB (.inRegion aM (i::rest)::(t++kk)) .run Lv) l' none w=eH P true (jF fn bB (.inRegion aM (i::rest)::(t++kk)) .run Lv) l' none (cC (jF fn bB (.inRegion aM (i::rest)::(t++kk)) .run Lv).eval o) w:=by
       unfold fC;have:(jF fn bB (.inRegion aM (i::rest)::(t++kk)) .run Lv).oper?=some o:=ho;rw[this];rfl
      rw[e3,e4];exact opR hF hw ht hG hG2 dp (by rw[tP];rfl) Ee.symm hE h ha ho
    have e1:cM P true true (Fr fn tmps (.inRegion aM (i::rest)::t) .run) l none lw=.go (G ((Fr fn tmps (.inRegion aM (i::rest)::t) .run).finish au) l) lw:=if_neg hwn
    have e2:cM P main true (jF fn bB (.inRegion aM (i::rest)::t++kk) .run Lv) l' none w=.go (G ((jF fn bB (.inRegion aM (i::rest)::t++kk) .run Lv).finish au) l') w:=by
     rw[<-hy] at hwn;exact if_neg hwn
    exact gS hw (h.set' (Ck _ _) (by rw[tP,Ee];exact EG ha dp uO)) e1 e2
  |code c=>
   cases c with
   |ret=>exact gS hw (aej _ _) rfl rfl
   |skip=>exact gS hw (D6 t KF) rfl rfl
   |label n=>exact gS hw (D6 t KF) rfl rfl
   |seq a b=>
    have hx':iT P F a=true/\iT P F b=true:=by simpa [jd,iT] using hx
    exact gS hw (D6 (.code a::.code b::t) (iW hx'.1 (iW hx'.2 KF))) rfl rfl
   |cond c a b=>
    have hx':(BO F c=true/\iT P F a=true)/\iT P F b=true:=by simpa [jd,iT] using hx
    have hv:=kH (fr:=Fr fn tmps (.code (.cond c a b)::t) .run) (fr':=jF fn bB (.code (.cond c a b)::t++kk) .run Lv) ha hx'.1.1
    have e1:cM P true true (Fr fn tmps (.code (.cond c a b)::t) .run) l none lw=(match (Fr fn tmps (.code (.cond c a b)::t) .run).eval c with
     |.bool x=>.go (G (Fr fn tmps (.code (if x then a else b)::t) .run) l) lw
     |_=>.ended (.stuck "cond: bool expected" ((Fr fn tmps (.code (.cond c a b)::t) .run).pos P)) lw):=rfl
    have e2:cM P main true (jF fn bB (.code (.cond c a b)::t++kk) .run Lv) l' none w=(match (jF fn bB (.code (.cond c a b)::t++kk) .run Lv).eval c with
     |.bool x=>.go (G (jF fn bB (.code (if x then a else b)::t++kk) .run Lv) l') w
     |_=>.ended (.stuck "cond: bool expected" ((jF fn bB (.code (.cond c a b)::t++kk) .run Lv).pos P)) w):=rfl
    rw[e1,e2];generalize (Fr fn tmps (.code (.cond c a b)::t) .run).eval c=v at hv ⊢;generalize (jF fn bB (.code (.cond c a b)::t++kk) .run Lv).eval c=v' at hv ⊢;cases hv<;>first|exact .inl ⟨_,_,_,rfl⟩|skip
    rename_i x;refine gS hw (D6 (.code (if x then a else b)::t) (iW ?_ KF)) rfl rfl;cases x
    .exact hx'.2
    exact hx'.1.2
   |block id c=>exact gS hw (D6 (.code c::.inBlock id::t) (iW hx (iW rfl KF))) rfl rfl
   |loop c=>exact gS hw (D6 (.code c::.inLoop c::t) (iW hx (iW hx KF))) rfl rfl
   |exit id=>
    cases he:exitTo id t with
    |none=>
     refine .inl ⟨.stuck "exit, goto: no such block or label" ((Fr fn tmps (.code (.exit id)::t) .run).pos P),lw,#[],?_⟩;show(exitTo id t).elim _ _=_;rw[he];rfl
    |some t'=>
     refine gS hw (D6 t' (zo KF he)) ?_ ?_
     .show(exitTo id t).elim _ _=_;rw[he];rfl
     show(exitTo id (t++kk)).elim _ _=_;rw[zq he];rfl
   |region id aM draw=>
    cases draw with
    |false=>exact gS hw (D6 (.inRegion aM (List.range aM.size)::t) (iW hx KF)) rfl rfl
    |true=>
     have h0:lw.tape lw.drawn=w.tape w.drawn:=ht 0;refine .inr (.inr (.inr ⟨_,_,_,_,_,_,_,_,U,rfl,?_,D6 (.inRegion aM (Region.schedule (P.follows .mixedOrders) aM (lw.tape lw.drawn (.order fn id)))::t) (iW hx KF),IP hw⟩));rw[h0];rfl
   |_=>cases hx
  |_=>cases hx
theorem Sl{ι:Type}{f f':ι->iZ ai}(hf:∀a,cj P F (At U (VR F U)) U (f a) (f' a))(l:Array ι):cj P F (At U (jg F U)) U (l.mapM f) (l.mapM f'):=by
 rw[qg,qg]
 have:∀l:List ι,cj P F (At U (T6 F U)) U (l.mapM f) (l.mapM f'):=by
  intro l;rw[<-List.mapM'_eq_mapM,<-List.mapM'_eq_mapM]
  induction l with
  |nil=>exact .dH .nil
  |cons a l ih=>exact(hf a).dT fun _ _ h1=>ih.dT fun _ _ h2=>.dH (.cons h1 h2)
 exact(this l.toList).dT fun _ _ h=>.dH h.row
theorem Md{v v':ai}(h:VR F U v v'):cj P F (At U (AR U)) U (asAddr v) (asAddr v'):=by
 cases h<;>first|exact bj|exact gT (e:=.nilDeref)|exact .dH ‹_›
theorem JV{tmps bB:Array ai}(ha:jg F U tmps bB)(fn:Func):cj P F (At U (VR F U)) U (results fn tmps) (results fn bB):=by
 unfold results;refine(Sl (fun r=>?_) fn.results).dT fun vs vs' hvs=>?_
 .cases r with
  |tmp t=>exact .dH (ha.getD uO t)
  |cell a t=>exact(Md (ha.getD uO a)).dT fun x y h=>zZ h
 have hs:=hvs.size
 by_cases h1:vs.size=1
 .have h2:vs'.size=1:=oN;simp only[h1,h2,dif_pos];exact .dH (hvs.at_ 0 _ _ (aN oN) (aN oN))
 have h2:¬vs'.size=1:=oN;simp only[h1,h2,dif_neg,not_false_eq_true];exact .dH hvs.tuple
theorem QM(h0:WR F P.globals.size B U lw w){fr fr':bY}{l l':List bY}(h:SR P F U k kd cs fr l fr' l'){v v':ai}{lg w1:ak}{evs:Array gO}{ρ1:Rn}
  (hv:VR F ρ1 v v') (hw:np F P.globals.size B U lw w ρ1 lg w1 evs) (es:Array gO) :
  JH P F P.globals.size B U k kd cs lw w (CR es (vw P true fr l none v lg)) (CR evs (vw P main fr' l' none v' w1)):=by
 cases h with
 |base h hi=>
  refine .inl ?_;unfold vw;dsimp only;rw[h.kinds.1,hi];exact⟨_,_,_,rfl⟩
 |@up _ _ c c' r r' h ae7 afs hr=>
  unfold vw;dsimp only;rw[h.kinds.1,h.kinds.2];have hr':=hr.mono hw.le;have Pu:=hr'.top;refine .inr (.inr (.inr ⟨_,_,_,_,_,_,_,_,ρ1,rfl,rfl,hr'.set' (Ck _ _) ?_,hw.more fun e he=>hw.evs e (by simpa using he)⟩));refine ?_;generalize (if r=[] then k else[])=kk at Pu ⊢;generalize (if r=[] then kd else CallKind.normal)=Lv at Pu ⊢;cases Pu with
  |ret _=>cases afs
  |@run fn tmps bB todo ha dp=>
   cases todo with
   |nil=>exact absurd rfl ae7
   |cons x t=>
    cases x with
    |inRegion aM is=>
     cases is with
     |nil=>exact .run (todo:=.inRegion aM []::t) ha dp
     |cons i rest=>exact EG ha dp hv
    |code c=>exact .run (todo:=.code c::t) ha dp
    |inBlock id=>exact .run (todo:=.inBlock id::t) ha dp
    |inLoop c=>exact .run (todo:=.inLoop c::t) ha dp
    |_=>exact absurd (mH dp).1 (by simp[jd])
theorem Yl(hw:WR F P.globals.size B U lw w)(ht:xo lw w)(hG:P.globals.size<=lw.heap.size)(hG2:P.globals.size<=w.heap.size)
  {fn:en} {tmps bB:Array ai} {todo QC:List qq} {l l':List bY} {kk:kC} (h:SR P F U k kd cs (Fr fn tmps todo .returning) l (jF fn bB QC .returning kk) l') (ha:jg F U tmps bB) :
  JH P F P.globals.size B U k kd cs lw w (mM P true (Fr fn tmps todo .returning) l none lw) (mM P main (jF fn bB QC .returning kk) l' none w):=by
 unfold mM;dsimp only[Fr,jF];cases hf:P.funcs[fn]? with
 |none=>
  have:=QM (main:=main) hw h (ha.getD uO 0) (.refl hw) #[];have e:∀s:GStep,CR #[] s=s:=fun s=>by cases s<;>simp[CR]
  rw[e,e] at this;exact this
 |some f=>
  rcases(JV (P:=P) ha f).runT hw ht hG hG2 #[] #[] with⟨a,lg,le,b,w1,evs,ρ1,h1,h2,h3,h4⟩|⟨e,lg,le,h1,h2⟩
  .simp only[fD] at h2;simp only[h1,h2];obtain⟨rfl,hv⟩:=h3;exact QM hw h hv (h4.more fun e he=>h4.evs e (mem_seen he)) _
  simp only[h1];cases e<;>exact .inl ⟨_,_,_,rfl⟩
theorem aee(hF:vQ P F)(hw:WR F P.globals.size B U lw w)(ht:xo lw w)(hG:P.globals.size<=lw.heap.size)(hG2:P.globals.size<=w.heap.size)
  {fr fr':bY} {l l':List bY} (h:SR P F U k kd cs fr l fr' l') (hk:l=[]->fr.mode=.run->fr.todo=[]->k=[]) (hE:kd≠.early) :
  JH P F P.globals.size B U k kd cs lw w (fE P true (G fr l) lw) (fE P main (G fr' l') w):=by
 have Pu:=h.top;generalize tP:(if l=[] then k else[])=kk at Pu;generalize Ee:(if l=[] then kd else CallKind.normal)=Lv at Pu;cases Pu with
 |run ha dp=>
  subst tP;subst Ee;exact agn (main:=main) hF hw ht hG hG2 h hE ha dp fun h1 h2=>hk h1 rfl h2
 |ret ha=>exact Yl (main:=main) hw ht hG hG2 h ha
end
structure ja(K:Nat->Prop)(w w1:ak):Prop where
 grow:w.heap.size<=w1.heap.size
 keep:∀c,K c->w1.heap[c]?=w.heap[c]?
def ja.refl(K:Nat->Prop)(w:ak):ja K w w:=⟨aJ _,fun _ _=>rfl⟩
def ja.trans{K:Nat->Prop}{a b c:ak}(h:ja K a b)(h':ja K b c):ja K a c:=⟨aG h.grow h'.grow,fun x hx=>(h'.keep x hx).trans (h.keep x hx)⟩
def own(O:Nat->Prop)(w w':ak):Nat->Prop:=fun c=>O c\/(w.heap.size<=c/\c<w'.heap.size)
structure Lt(S O:Nat->Prop)(w w':ak)(es:Array gO):Prop where
 grow:w.heap.size<=w'.heap.size
 keep:∀c,c<w.heap.size->¬O c->w'.heap[c]?=w.heap[c]?
 tape:w'.tape=w.tape
 drawn:w.drawn<=w'.drawn
 os:w'.os=w.os
 out:w'.output=w.output
 evs:∀e∈es,Un (fun c=>S c\/own O w w' c) (own O w w') e
inductive Walk(P:aK)(main:Bool)(S:Nat->Prop)(Stop:(Nat->Prop)->aC->ak->Prop):(Nat->Prop)->aC->ak->Prop
 |stop {O:Nat->Prop} {g:aC} {w:ak}:(∀w1,ja (fun c=>S c\/O c) w w1->Stop O g w1)->Walk P main S Stop O g w
 |step {O:Nat->Prop} {g:aC} {w:ak}:g.status=.running->g.dying=none->
   (∀w1,ja (fun c=>S c\/O c) w w1->∃g2 w2 es,fE P main g w1=.go g2 w2 es/\Lt S O w1 w2 es/\g2.status=.running/\g2.dying=none)->
   (∀w1,ja (fun c=>S c\/O c) w w1->∀g2 w2 es,fE P main g w1=.go g2 w2 es->Walk P main S Stop (own O w1 w2) g2 w2)->Walk P main S Stop O g w
section
variable{P:aK}{main:Bool}{S:Nat->Prop}{Stop aaU:(Nat->Prop)->aC->ak->Prop}{O:Nat->Prop}{g:aC}{w:ak}
theorem Walk.bind(h:Walk P main S Stop O g w)(k:∀O g w,Stop O g w->Walk P main S aaU O g w):Walk P main S aaU O g w:=by
 induction h with
 |@stop O g w h=>exact k _ _ _ (h w (.refl _ _))
 |step a b c d ih=>exact .step a b c ih
theorem Walk.mk{r:g.status=.running}{d:g.dying=none}(h:∀w1,ja (fun c=>S c\/O c) w w1->∃g2 w2 es,fE P main g w1=.go g2 w2 es/\Lt S O w1 w2 es/\g2.status=.running/\g2.dying=none/\Walk P main S Stop (own O w1 w2) g2 w2):Walk P main S Stop O g w:=by
 refine .step r d (fun w1 h1=>?_) fun w1 h1 g2 w2 es e=>?_
 .obtain⟨g2,w2,es,e,hg,hr,hd,_⟩:=h w1 h1;exact⟨g2,w2,es,e,hg,hr,hd⟩
 obtain⟨g3,w3,es3,e3,_,_,_,hw⟩:=h w1 h1;rw[e] at e3;injection e3 with e4 e5 e6
 rw[e4,e5];exact hw
end
section
variable{P:aK}{F:Nat->Bool}{B:Nat->Prop}{U:Rn}{k:List qq}{kd:kC}{cs:List bY}{lw w:ak}{main:Bool}{Stop:aC->ak->Prop}
theorem Au{g g1 g':aC}{lg eP:ak}{es:Array gO}(h:s5 P g lw g' eP)(e:fE P true g lw=.go g1 lg es):g'=g1/\eP=lg:=by
 obtain⟨hr,_,⟨aM,hs⟩,_⟩:=h;rw[stepT_solo hr,n_] at hs;have PW:(#[g]:Array aC)[0]?=some g:=rfl;have e1:=runT_crowd_go (P:=P) (gs:=#[g]) (w:=lw) (sl:=none) (i:=0) PW e;rw[e1] at hs;injection hs with hs1 _
 injection hs1 with hs3
 have:(#[g].map (woken P g g1 lg)).setIfInBounds 0 g1 = #[g1]:=sN;rw[this,<-n_] at hs3;obtain⟨h1,h2⟩:=o_ hs3;exact⟨h1.symm,h2.symm⟩
theorem wT{g g':aC}{lg eP:ak}{o:Outcome}{es:Array gO}(h:s5 P g lw g' eP)(e:fE P true g lw=.ended o lg es):False:=by
 obtain⟨hr,_,⟨aM,hs⟩,_⟩:=h;rw[stepT_solo hr,n_] at hs;have PW:(#[g]:Array aC)[0]?=some g:=rfl;have e1:=runT_many_ended (P:=P) (gs:=#[g]) (w:=lw) (sl:=none) (i:=0) PW e;rw[e1] at hs;injection hs with hs1 _
 cases hs1
theorem Pk{g g1 g':aC}{lg eP:ak}{ch v:ai}{es:Array gO}(h:s5 P g lw g' eP)(e:fE P true g lw=.comm g1 #[{ chan:=ch,send:=some v,zero:=.tuple #[] }] true .send lg es)
  (hn:∀(b:Nat) (o:Obj),lg.heap[b]?=some o->o.isChan=false):False:=by
 obtain⟨hr,_,⟨aM,hs⟩,hr',_⟩:=h;rw[stepT_solo hr,n_] at hs;have PW:(#[g]:Array aC)[0]?=some g:=rfl;have e1:=runT_crowd_comm (P:=P) (gs:=#[g]) (w:=lw) (sl:=none) (i:=0) PW e;rw[e1] at hs;injection hs with hs1 _
 have lO:∀c:nA,(c.chan=.chan none\/(match c.chan with
   |.chan none=>false
   |.chan (some r)=>!(lg.heap[r]? matches some (.chan ..))
   |_=>true)=true):=by
  intro c;cases hc:c.chan with
  |chan r=>
   cases r with
   |none=>exact .inl rfl
   |some r=>
    right;dsimp only;cases hh:lg.heap[r]? with
    |none=>rfl
    |some o=>
     have:=hn r o hh;cases o<;>first|rfl|cases this
  |_=>exact .inr rfl
 unfold communicate at hs1;rcases lO { chan:=ch,send:=some v,zero:=.tuple #[] } with hb|hb
 .dsimp only at hb;subst hb;have hw:∀gs:Array aC,ways lg gs { chan:=.chan none,send:=some v,zero:=.tuple #[] }=[]:=fun gs=>rfl;simp[hw,waitingAt,timerAhead] at hs1;have h1:=congrArg Machine.gs hs1;have h2:(#[g].setIfInBounds 0 { g1 with status:=.blocked,offers:=some (#[{ chan:=.chan none,send:=some v,zero:=.tuple #[] }],.send) }:Array aC) = #[g']:=by simpa [solo,crowd] using h1
  have h3:g'={ g1 with status:=.blocked,offers:=some (#[{ chan:=.chan none,send:=some v,zero:=.tuple #[] }],.send) }:=by
   have:=congrArg (fun a:Array aC=>a[0]?) h2;simpa using this.symm
  rw[h3] at hr';cases hr'
 dsimp only at hb;simp at hs1;rw[if_pos] at hs1
 .cases hs1
 exact hb
theorem UA(hS:∀g W,Stop g W->¬Qp g){g:aC}{W:ak}(h:Bar P Stop g W):¬Qp g:=by
 induction h with
 |stop h=>exact hS _ _ h
 |@step g W live down ih=>
  intro hs;obtain⟨g',W',hl⟩:=live W.tape fun _ _=>rfl;rcases RZ (P:=P) (lw:=dR W W.tape W.drawn) hs hl.2.1 hl.1 with⟨o,w1,es,e⟩|⟨g1,w1,es,e,hs1⟩
  .exact wT hl e
  obtain⟨rfl,rfl⟩:=Au hl e;exact ih W.tape (fun _ _=>rfl) _ _ hl hs1
theorem T3{fn:en}{tmps:Array ai}{todo:List qq}(hi:P.inits.idxOf? fn=none):∃o w1 es,fE P true (G (Fr fn tmps todo .returning) []) lw=.ended o w1 es:=by
 have e:fE P true (G (Fr fn tmps todo .returning) []) lw=mM P true (Fr fn tmps todo .returning) [] none lw:=rfl;rw[e]
 have hd:∀v w,vw P true (Fr fn tmps todo .returning) [] none v w=.ended (.done v) w:=by
  intro v w;unfold vw;simp only[Fr,jF,hi];rfl
 unfold mM;dsimp only[Fr,jF];cases P.funcs[fn]? with
 |none=>exact⟨_,_,_,hd _ _⟩
 |some f=>
  dsimp only;generalize (results f tmps).runT P lw #[]=r;obtain⟨r,es⟩:=r;cases r with
  |ok v w=>
   have:=hd v w;simp only[Fr,jF] at this;simp only[this];exact⟨_,_,_,rfl⟩
  |halt e w=>cases e<;>exact⟨_,_,_,rfl⟩
theorem WR.rely(h:WR F P.globals.size B U lw w){w1:ak}(hr:ja (fun c=>(∃b,B b/\U b=some c)\/U.owns B c) w w1):WR F P.globals.size B U lw w1:=by
 refine⟨h.inj,h.low,h.base,fun b c hb=>?_,h.Kj⟩;obtain⟨o,o',h1,h2,h3,h4⟩:=h.at_ b c hb;refine⟨o,o',h1,?_,h3,h4⟩;rw[hr.keep c ?_,h2];rcases Classical.em (B b) with hl|hg
 .exact .inl ⟨b,hl,hb⟩
 exact .inr ⟨b,hg,hb⟩
theorem np.owns{ρ1:Rn}{lg w1:ak}{es:Array gO}(h0:WR F P.globals.size B U lw w)(h:np F P.globals.size B U lw w ρ1 lg w1 es):ρ1.owns B=own (U.owns B) w w1:=by
 funext c
 refine propext ⟨?_,?_⟩
 .rintro⟨b,hb,he⟩;rcases h.new b c he with h1|⟨_,h2⟩
  .exact .inl ⟨b,hb,h1⟩
  obtain⟨_,_,_,hc,_⟩:=h.wr.at_ b c he;exact .inr ⟨h2,eY hc⟩
 rintro(⟨b,hb,he⟩|⟨h1,h2⟩)
 .exact⟨b,hb,h.le _ _ he⟩
 obtain⟨b,he⟩:=h.fresh c h1 h2;rcases h.new b c he with h3|⟨h3,_⟩
 .obtain⟨_,_,_,hc,_⟩:=h0.at_ b c h3;have:=eY hc;omega
 exact⟨b,fun hb=>by have:=h0.base b hb;omega,he⟩
theorem np.shared{ρ1:Rn}{lg w1:ak}{es:Array gO}(h0:WR F P.globals.size B U lw w)(h:np F P.globals.size B U lw w ρ1 lg w1 es)(c:Nat):(∃b,B b/\ρ1 b=some c)↔∃b,B b/\U b=some c:=by
 constructor
 .rintro⟨b,hb,he⟩;rcases h.new b c he with h1|⟨h1,_⟩
  .exact⟨b,hb,h1⟩
  have:=h0.base b hb;omega
 rintro⟨b,hb,he⟩;exact⟨b,hb,h.le _ _ he⟩
structure ag8(P:aK)(F:Nat->Bool)(B:Nat->Prop)(k:List qq)(kd:kC)(cs:List bY)(Stop:aC->ak->Prop)(lw0:ak)(ρ0:Rn)(O:Nat->Prop)(g':aC)(w':ak)(fr:bY)(l:List bY)(lw:ak)(U:Rn)(fr':bY)(l':List bY):Prop where
 g:g'=G fr' l'
 stop:Stop (G fr l) lw
 sr:SR P F U k kd cs fr l fr' l'
 wr:WR F P.globals.size B U lw w'
 w8:P.globals.size<=w'.heap.size
 own:O=U.owns B
 shared:∀c,(∃b,B b/\U b=some c)↔∃b,B b/\ρ0 b=some c
 le:Rn.le ρ0 U
 grow:lw0.heap.size<=lw.heap.size
 ok:dL lw
theorem LN(T:Quiet P)(hF:vQ P F)(hS:∀g W,Stop g W->¬Qp g)(hE:kd≠.early)(hk:k=[]\/∀g W,Stop g W->g.frame.mode=.run){S:Nat->Prop} :
  ∀ {g:aC} {lw:ak},Bar P Stop g lw->Bz g->dL lw->P.globals.size<=lw.heap.size->∀ {fr:bY} {l:List bY} {U:Rn} {fr':bY} {l':List bY} {w:ak},g=G fr l->SR P F U k kd cs fr l fr' l'->WR F P.globals.size B U lw w->P.globals.size<=w.heap.size->
   (∀c,S c↔∃b,B b/\U b=some c)->
   Walk P main S (fun O g' w'=>∃Ib l1 lg ρ1 x_ YU,ag8 P F B k kd cs Stop lw U O g' w' Ib l1 lg ρ1 x_ YU) (U.owns B) (G fr' l') w:=by
 intro g lw h
 induction h with
 |@stop g lw h=>
  rintro Zh dp hG fr l U fr' l' w rfl hsr hw Dy Zp;have eK:(fun c=>S c\/U.owns B c)=fun c=>(∃b,B b/\U b=some c)\/U.owns B c:=by funext c;rw[Zp c]
  refine .stop fun w1 hr=>?_;rw[eK] at hr;exact⟨fr,l,lw,U,fr',l',rfl,h,hsr,hw.rely hr,aG Dy hr.grow,rfl,fun c=>Iff.rfl,Rn.le_refl _,aJ _,dp⟩
 |@step g lw live down ih=>
  rintro Zh dp hG fr l U fr' l' w rfl hsr hw Dy Zp;have eK:(fun c=>S c\/U.owns B c)=fun c=>(∃b,B b/\U b=some c)\/U.owns B c:=by funext c;rw[Zp c]
  refine Walk.mk (r:=rfl) (d:=rfl) fun w1 hr=>?_;have hr0:=hr;rw[eK] at hr;have hw1:=hw.rely hr;have afH:=aG Dy hr.grow;let I:Nat->dV->Nat:=fun p=>if p<lw.drawn then lw.tape p else w1.tape (w1.drawn+(p-lw.drawn))
  have PH:Ext lw I:=fun i hi=>by simp only[I,if_pos hi]
  have ht:xo (dR lw I lw.drawn) w1:=fun i=>by simp only[Al,qP,I,if_neg (show ¬lw.drawn+i<lw.drawn by omega),tS]
  obtain⟨g1,lg,hl⟩:=live I PH;obtain⟨afG,Ec,_⟩:=sw T Zh (lw:=dR lw I lw.drawn) dp hl
  have rU:l=[]->fr.mode=.run->fr.todo=[]->k=[]:=by
   rintro rfl hm htd;rcases hk with hk|hk
   .exact hk
   .exfalso;cases hsr with
    |base hfr hi=>
     cases hfr with
     |ret _=>cases hm
     |@run fn tmps bB todo ha dp=>
      dsimp only[Fr,jF] at htd;subst htd;have e:fE P true (G (Fr fn tmps [] .run) []) (dR lw I lw.drawn)=.go (G (Fr fn tmps [] .returning) []) (dR lw I lw.drawn) #[]:=rfl;obtain⟨rfl,rfl⟩:=Au hl e;have ajE:=down I PH _ _ hl;cases ajE with
      |stop h=>exact absurd (hk _ _ h) (by simp[G,Fr,jF])
      |step aeZ _=>
       obtain⟨g2,w2,hl2⟩:=aeZ _ fun _ _=>rfl;obtain⟨o,w3,es,e3⟩:=T3 (P:=P) (lw:=dR (dR lw I lw.drawn) (dR lw I lw.drawn).tape (dR lw I lw.drawn).drawn) (fn:=fn) (tmps:=tmps) (todo:=[]) hi;exact wT hl2 e3
  have abG:WR F P.globals.size B U (dR lw I lw.drawn) w1:=hw1.tape I w1.tape lw.drawn w1.drawn;rcases aee (main:=main) hF abG ht hG afH hsr rU hE with⟨o,lw2,es,e⟩|⟨g2,lw2,es,e,hs⟩|⟨g2,ch,v,lw2,es,e,hn⟩|⟨Ib,l1,lw2,es,x_,YU,w2,evs,ρ1,e,e',aiQ,sD⟩
  .exact(wT hl e).elim
  .obtain⟨rfl,rfl⟩:=Au hl e;exact absurd hs (UA hS (down I PH _ _ hl))
  .exact(Pk hl e hn).elim
  obtain⟨rfl,rfl⟩:=Au hl e;have hown:=sD.owns abG;have hsh:=sD.shared abG;refine⟨_,_,_,e',⟨sD.grow,sD.keep,sD.tape,?_,sD.os,sD.out,fun x hx=>?_⟩,rfl,rfl,?_⟩
  .obtain⟨k1,_,h2⟩:=sD.draw;omega
  .refine(sD.evs x hx).mono (fun c hc=>?_) fun c hc=>by rw[hown] at hc;exact hc
   obtain⟨b,hb⟩:=hc;rcases Classical.em (B b) with hlt|hge
   .exact .inl ((Zp c).2 ((hsh c).1 ⟨b,hlt,hb⟩))
   right;rw[<-hown];exact⟨b,hge,hb⟩
  rw[<-hown];refine(ih I PH _ _ hl afG Ec (aG hG sD.Jd) rfl aiQ sD.wr (aG afH sD.grow) fun c=>(Zp c).trans (hsh c).symm).bind fun O g' w' hE=>?_;obtain⟨a1,a2,a3,a4,a5,a6,hE⟩:=hE
  exact .stop fun w3 h3=>⟨a1,a2,a3,a4,a5,a6,⟨hE.g,hE.stop,hE.sr,hE.wr.rely (by
   have:(fun c=>S c\/O c)=fun c=>(∃b,B b/\a4 b=some c)\/a4.owns B c:=by
    funext c;rw[Zp c,hE.own,hE.shared c,hsh c]
   rwa [this] at h3),aG hE.w8 h3.grow,hE.own,fun c=>(hE.shared c).trans (hsh c),Rn.le_trans sD.le hE.le,aG sD.Jd hE.grow,hE.ok⟩⟩
end
section
variable{P:aK}{α β:Type}
end
section
variable{P:aK}{F:Nat->Bool}{B:Nat->Prop}{U ρ1:Rn}{lw lg w w1:ak}{main:Bool}
structure Kn(P:aK)(F:Nat->Bool)(B:Nat->Prop)(S:Nat->Prop)(lw0:ak)(ρ0:Rn)(O:Nat->Prop)(w':ak)(lw:ak)(U:Rn):Prop where
 wr:WR F P.globals.size B U lw w'
 w8:P.globals.size<=w'.heap.size
 own:O=U.owns B
 shared:∀c,S c↔∃b,B b/\U b=some c
 le:Rn.le ρ0 U
 grow:lw0.heap.size<=lw.heap.size
 ok:dL lw
theorem Kn.rely{S:Nat->Prop}{lw0:ak}{ρ0:Rn}{O:Nat->Prop}{w' w2:ak}(h:Kn P F B S lw0 ρ0 O w' lw U)(hr:ja (fun c=>S c\/O c) w' w2):Kn P F B S lw0 ρ0 O w2 lw U:=
 ⟨h.wr.rely (by
  have e:(fun c=>S c\/O c)=fun c=>(∃b,B b/\U b=some c)\/U.owns B c:=by funext c;rw[h.shared c,h.own]
  rwa [e] at hr),aG h.w8 hr.grow,h.own,h.shared,h.le,h.grow,h.ok⟩
theorem ET(T:Quiet P)(hF:vQ P F)(hG:P.globals.size<=lw.heap.size){fn:en}{kd:kC}(hE:kd≠.early)(hi:P.inits.idxOf? fn=none){c:Code}(hc:iT P F c=true)(hc':eo c=true){tmps bB:Array ai}(ha:jg F U tmps bB)
  (hw:WR F P.globals.size B U lw w) (Dy:P.globals.size<=w.heap.size) (dp:dL lw) {Q:Act->ak->Prop} (hQ:∀a W' I d,Q a (dR W' I d)->Q a W')
  (h:∀I d,c.wp P (fun e a W'=>e=.normal/\Q a W') ⟨tmps,[]⟩ (dR lw I d)) {S:Nat->Prop} (Zp:∀c,S c↔∃b,B b/\U b=some c) (k:List qq) (cs:List bY) :
  Walk P main S (fun O g' w'=>∃ov lF lg ρ1,g'=G (jF fn lF k .run kd) cs/\jg F ρ1 ov lF/\Q ⟨ov,[]⟩ lg/\Kn P F B S lw U O w' lg ρ1) (U.owns B) (G (jF fn bB (.code c::k) .run kd) cs) w:=by
 have hb:Bar P (fun g W=>∃a1,g=G ((Fr fn #[] [] .run).at a1 []) []/\Q a1 W) (G (Fr fn tmps [.code c] .run) []) lw:=by
  refine DY T ?_ ?_ ⟨⟨by simpa [G,Fr,jF,je] using hc',rfl⟩,by simp[G],.inl rfl⟩ dp rfl rfl fun I _=>?_
  .rintro g W I d ⟨a1,h1,h2⟩;exact⟨a1,h1,hQ _ _ _ _ h2⟩
  .rintro g W ⟨a1,rfl,_⟩;exact⟨rfl,rfl⟩
  obtain⟨e,a',w',⟨rfl,hq⟩,n,hn⟩:=h I lw.drawn (Fr fn #[] [] .run) [] [];exact⟨n,G ((Fr fn #[] [] .run).at a' []) [],w',hn,a',rfl,hq⟩
 have hns:∀g W,(∃a1,g=G ((Fr fn #[] [] .run).at a1 []) []/\Q a1 W)->¬Qp g:=by
  rintro g W ⟨a1,rfl,_⟩ (hs|hs|⟨ch,hs,_⟩)
  .exact hs rfl
  .exact hs rfl
  cases hs
 have aiR:SR P F U k kd cs (Fr fn tmps [.code c] .run) [] (jF fn bB (.code c::k) .run kd) cs:=.base (.run (todo:=[.code c]) ha (by simpa [jd] using hc)) hi;refine(LN (main:=main) T hF hns hE (.inr ?_) hb ⟨⟨by simpa [G,Fr,jF,je] using hc',rfl⟩,by simp[G],.inl rfl⟩ dp hG rfl aiR hw Dy Zp).bind fun O g' w' hE=>?_
 .rintro g W ⟨a1,rfl,_⟩;rfl
 obtain⟨Ib,l1,lg,ρ1,x_,YU,hE⟩:=hE;obtain⟨a1,hg,hq⟩:=hE.stop
 have hfl:Ib=(Fr fn #[] [] .run).at a1 []/\l1=[]:=by
  have h1:(G Ib l1).frame=(G ((Fr fn #[] [] .run).at a1 []) []).frame:=by rw[hg]
  have h2:(G Ib l1).callers=(G ((Fr fn #[] [] .run).at a1 []) []).callers:=by rw[hg]
  exact⟨h1,h2⟩
 obtain⟨h1,rfl⟩:=hfl;have ajc:Kn P F B S lw U O w' lg ρ1:=⟨hE.wr,hE.w8,hE.own,fun c=>(Zp c).trans (hE.shared c).symm,hE.le,hE.grow,hE.ok⟩
 have hsr:=hE.sr;have Cc:=hE.g;generalize ajs:([]:List bY)=l1 at hsr;cases hsr with
 |up _ _ _ _=>cases ajs
 |base hfr hin=>
  cases hfr with
  |@ret fn1 ov lF Z9 aif Ug=>cases congrArg Frame.mode h1
  |@run fn1 ov lF Z9 Ug hto=>
   have e1:fn1=fn:=congrArg Frame.fn h1;have e2:ov=a1.tmps:=congrArg Frame.tmps h1;have e3:Z9=[]:=congrArg Frame.todo h1;have e4:([]:List Deferred)=a1.defers:=congrArg Frame.defers h1;subst e1;subst e3;refine .stop fun w2 hr=>⟨ov,lF,lg,ρ1,Cc,Ug,?_,ajc.rely hr⟩
   rw[e2,e4];exact hq
end
def D_:Loc->Option Nat
 |.cell a=>some a.block
 |.obj r=>some r
 |_=>none
structure PT(A:Nat->Prop)(S O:Nat->Nat->Prop)(B:Nat)(t:Trace):Prop where
 clean:∀said,¬Race said t
 known:∀i a c,touchAt t i=some a->D_ a.loc=some c->Knows t 0 i\/∃g,A g/\t.g? i=some g/\(O g c\/(a.write=false/\S g c))
 wk:∀g,A g->∀i a c,touchAt t i=some a->D_ a.loc=some c->S g c->a.write=true->Knows t g i
 ow:∀g,A g->∀i a c,touchAt t i=some a->D_ a.loc=some c->O g c->t.g? i=some g
 over:∀i g,t.g? i=some g->g≠0->t.counts i->(∃j,t.g? j=some 0/\HappensBefore t i j)\/A g
 hears:Deaf t 0=0
 wZ:∀g,A g->Deaf t g=0
 seen:∀op∈t,op.act.low B
 pos:∀g,A g->g≠0
section
variable{A A':Nat->Prop}{S O S' O':Nat->Nat->Prop}{B B':Nat}{t u:Trace}
theorem FO{l:Loc}:l.isMemory=true↔∃c,D_ l=some c:=by
 cases l<;>simp[Loc.isMemory,D_]
theorem MG{l:Loc}{c:Nat}(h:D_ l=some c)(hl:l.low B):c<B:=by
 cases l<;>simp only[D_,ia,reduceCtorEq] at h
 .subst h;exact hl
 subst h;exact hl
theorem RX{op:MemOp}{x:Touch}{c:Nat}(h:op.act.touch?=some x)(hc:D_ x.loc=some c)(hl:op.act.low B):c<B:=by
 obtain⟨g,fn,pos,act⟩:=op;cases act with
 |access e=>
  simp only[MemAct.touch?,ia] at h;subst h;exact MG hc hl
 |mark m=>
  cases m<;>simp only[MemAct.touch?,ia,reduceCtorEq] at h<;>(subst h;exact MG hc hl)
 |_=>cases h
theorem PT.YI(h:Ob B t):PT (fun _=>False) S O B t:=by
 refine⟨h.clean,fun i a c ha hc=>.inl ?_,fun g hg=>hg.elim,fun g hg=>hg.elim,fun i g h1 h2 h3=>.inl (h.over i g h1 h2 h3),h.hears,fun g hg=>hg.elim,h.seen,fun g hg=>hg.elim⟩;rcases h.known i a ha (FO.2 ⟨c,hc⟩) with hk|⟨hs,_⟩
 .exact hk
 exact hs.elim
theorem PT.past(h:PT A S O B t)(hA:∀g,¬A g):Ob B t:=by
 refine⟨h.clean,fun i a ha hm=>.inl ?_,fun i g h1 h2 h3=>(h.over i g h1 h2 h3).resolve_right (hA g),h.hears,h.seen⟩;obtain⟨c,hc⟩:=FO.1 hm;rcases h.known i a c ha hc with hk|⟨g,hg,_⟩
 .exact hk
 exact(hA g hg).elim
theorem PT.lt(h:PT A S O B t){i:Nat}{a:Touch}{c:Nat}(ha:touchAt t i=some a)(hc:D_ a.loc=some c):c<B:=by
 obtain⟨x,hx,yy⟩:=touch_of ha;exact RX yy hc (h.seen x (mem_of_getElem? hx))
theorem g?_app{i:Nat}{g:Nat}(h:t.g? i=some g):(t++u).g? i=some g:=by
 obtain⟨x,hx,hg⟩:=eW.1 h;rw[g?_old (lt_size_of_getElem? hx)];exact h
def Lp(R W:Nat->Prop)(op:MemOp):Prop:=∀x,op.act.touch?=some x->x.kind=.plain/\∃c,D_ x.loc=some c/\R c/\(x.write=true->W c)
def oQ(op:MemOp):Prop:=op.act≠.mark .disable/\op.act≠.mark .enable
theorem iN(t:Trace)(g:Nat)(u:Trace)(hu:∀op∈u,oQ op):Deaf (t++u) g=Deaf t g:=by
 have key:∀(l:List MemOp) (d:Nat),(∀op∈l,oQ op)->l.foldl (deafStep g) d=d:=by
  intro l
  induction l with
  |nil=>intro d _;rfl
  |cons y l ih=>
   intro d hl;have hy:=hl y sN;rw[List.foldl_cons]
   have:deafStep g d y=d:=by
    unfold deafStep;split
    .rename_i e;exact absurd e hy.1
    .rename_i e;exact absurd e hy.2
    rfl
   rw[this];exact ih d fun op hop=>hl op (by simp[hop])
 have:=Deaf_append t g u.toList;simp only[Array.toArray_toList] at this;rw[this];exact key _ _ fun op hop=>hu op (by simpa using hop)
theorem sK{i:Nat}(hi:i<t.size):(t++u).counts i->t.counts i:=by
 rintro⟨x,hx,hm,hk⟩;refine⟨x,?_,hm,?_⟩
 .rw[act?_old hi] at hx;exact hx
 exact hk.imp id fun h=>(heard_old hi).1 h
theorem A3{i:Nat}(h:t.counts i):∃x c,touchAt t i=some x/\D_ x.loc=some c:=by
 obtain⟨x,hx,hm,_⟩:=h;obtain⟨c,hc⟩:=FO.1 hm;exact⟨x,c,hx,hc⟩
theorem PT.app0(h:PT A S O B t){R W:Nat->Prop}(hB:B<=B')(hu:∀op∈u,op.g=0/\Lp R W op/\oQ op/\op.act.low B')(hR:∀g,A g->∀c,R c->¬O g c)(hW:∀g,A g->∀c,W c->¬S g c):PT A S O B' (t++u):=by
 refine⟨fun said=>noRace_append (h.clean said) (fun op hop=>(hu op hop).1) fun i a ha op hop b hb hc=>?_,fun i a c ha hc=>?_,fun g hg i a c ha hc hs hw=>?_,fun g hg i a c ha hc ho=>?_,fun i g h1 h2 h3=>?_,?_,fun g hg=>?_,?_,h.pos⟩
 .obtain⟨_,c,hbc,hr,hwr⟩:=(hu op hop).2.1 b hb;rcases h.known i a c ha (hc.1▸hbc) with hk|⟨g,hg,_,MZ⟩
  .exact hk
  rcases MZ with ho|⟨hw,hs⟩
  .exact absurd ho (hR g hg c hr)
  have vV:b.write=true:=by
   rcases hc.2.2.1 with h1|h1
   .rw[hw] at h1;cases h1
   exact h1
  exact absurd hs (hW g hg c (hwr vV))
 .obtain⟨x,hx,yy⟩:=touch_of ha;rcases iI hx with⟨hi,hx'⟩|⟨_,Jh⟩
  .rcases h.known i a c (by rw[touchAt_of hx'];exact yy) hc with hk|⟨g,hg,PE,MZ⟩
   .exact .inl (hk.app u)
   exact .inr ⟨g,hg,g?_app PE,MZ⟩
  have:=knows_own hx;rw[(hu x Jh).1] at this;exact .inl this
 .obtain⟨x,hx,yy⟩:=touch_of ha;rcases iI hx with⟨hi,hx'⟩|⟨_,Jh⟩
  .exact(h.wk g hg i a c (by rw[touchAt_of hx'];exact yy) hc hs hw).app u
  obtain⟨_,c',hc',_,hwr⟩:=(hu x Jh).2.1 a yy;rw[hc] at hc';cases hc';exact absurd hs (hW g hg c (hwr hw))
 .obtain⟨x,hx,yy⟩:=touch_of ha;rcases iI hx with⟨hi,hx'⟩|⟨_,Jh⟩
  .exact g?_app (h.ow g hg i a c (by rw[touchAt_of hx'];exact yy) hc ho)
  obtain⟨_,c',hc',hr,_⟩:=(hu x Jh).2.1 a yy;rw[hc] at hc';cases hc';exact absurd ho (hR g hg c hr)
 .obtain⟨x,hx,KD⟩:=eW.1 h1;rcases iI hx with⟨hi,hx'⟩|⟨_,Jh⟩
  .rcases h.over i g (by rw[<-g?_old (u:=u) hi];exact h1) h2 (sK hi h3) with⟨j,hj,hb⟩|hA
   .exact .inl ⟨j,g?_app hj,hb_app u hb⟩
   exact .inr hA
  rw[(hu x Jh).1] at KD;exact absurd KD.symm h2
 .rw[iN _ _ _ fun op hop=>(hu op hop).2.2.1];exact h.hears
 .rw[iN _ _ _ fun op hop=>(hu op hop).2.2.1];exact h.wZ g hg
 exact seen_app (fun op hop=>MemAct.low_mono hB (h.seen op hop)) fun op hop=>(hu op hop).2.2.2
theorem PT.appW(h:PT A S O B t){k:Nat}(hk:A k){W:Nat->Prop}(hB:B<=B')(hu:∀op∈u,op.g=k/\Lp (fun c=>S k c\/W c) W op/\oQ op/\op.act.low B')
  (hW:∀c,W c->O k c\/B<=c) (hO:∀c,O k c->W c) (tP:∀c,W c->¬S k c) (hg:∀g,A g->g≠k->∀c,W c->¬S g c/\¬O g c) (hs:∀g,A g->g≠k->∀c,S k c->¬O g c) :
  PT A S (fun g=>if g=k then W else O g) B' (t++u):=by
 refine⟨fun said=>noRace_append (h.clean said) (fun op hop=>(hu op hop).1) fun i a ha op hop b hb hc=>?_,fun i a c ha hc=>?_,fun g PG i a c ha hc hs' hw=>?_,fun g PG i a c ha hc ho=>?_,fun i g h1 h2 h3=>?_,?_,fun g PG=>?_,?_,h.pos⟩
 .obtain⟨_,c,hbc,hr,hwr⟩:=(hu op hop).2.1 b hb;have hac:D_ a.loc=some c:=hc.1▸hbc;have hlt:=h.lt ha hac
  have own:O k c->Knows t k i:=fun ho=>by
   have:=h.ow k hk i a c ha hac ho;obtain⟨x,hx,KD⟩:=eW.1 this;have:=knows_own hx;rwa [KD] at this
  rcases hr with hr|hr
  .rcases hc.2.2.1 with h1|h1
   .exact h.wk k hk i a c ha hac hr h1
   exact absurd hr (tP c (hwr h1))
  rcases hW c hr with ho|hge
  .exact own ho
  omega
 .obtain⟨x,hx,yy⟩:=touch_of ha;rcases iI hx with⟨hi,hx'⟩|⟨_,Jh⟩
  .rcases h.known i a c (by rw[touchAt_of hx'];exact yy) hc with rC|⟨g,PG,PE,MZ⟩
   .exact .inl (rC.app u)
   refine .inr ⟨g,PG,g?_app PE,MZ.imp (fun ho=>?_) id⟩
   by_cases e:g=k
   .subst e;simp only[if_true];exact hO c ho
   simp only[e,if_false];exact ho
  obtain⟨_,c',hc',hr,hwr⟩:=(hu x Jh).2.1 a yy;rw[hc] at hc';cases hc';refine .inr ⟨k,hk,by simp only[Trace.g?,hx,dK];rw[(hu x Jh).1],?_⟩;simp only[if_true];rcases hr with hr|hr
  .cases hw:a.write with
   |false=>exact .inr ⟨rfl,hr⟩
   |true=>exact .inl (hwr hw)
  exact .inl hr
 .obtain⟨x,hx,yy⟩:=touch_of ha;rcases iI hx with⟨hi,hx'⟩|⟨_,Jh⟩
  .exact(h.wk g PG i a c (by rw[touchAt_of hx'];exact yy) hc hs' hw).app u
  obtain⟨_,c',hc',_,hwr⟩:=(hu x Jh).2.1 a yy;rw[hc] at hc';cases hc'
  by_cases e:g=k
  .subst e;exact absurd hs' (tP c (hwr hw))
  exact absurd hs' (hg g PG e c (hwr hw)).1
 .obtain⟨x,hx,yy⟩:=touch_of ha
  by_cases e:g=k
  .subst e;simp only[if_true] at ho;rcases iI hx with⟨hi,hx'⟩|⟨_,Jh⟩
   .have ha':touchAt t i=some a:=by rw[touchAt_of hx'];exact yy
    rcases hW c ho with ho'|hge
    .exact g?_app (h.ow g PG i a c ha' hc ho')
    have:=h.lt ha' hc;omega
   simp only[Trace.g?,hx,dK];rw[(hu x Jh).1]
  simp only[e,if_false] at ho;rcases iI hx with⟨hi,hx'⟩|⟨_,Jh⟩
  .exact g?_app (h.ow g PG i a c (by rw[touchAt_of hx'];exact yy) hc ho)
  obtain⟨_,c',hc',hr,_⟩:=(hu x Jh).2.1 a yy;rw[hc] at hc';cases hc';rcases hr with hr|hr
  .exact absurd ho (hs g PG e c hr)
  exact absurd ho (hg g PG e c hr).2
 .obtain⟨x,hx,KD⟩:=eW.1 h1;rcases iI hx with⟨hi,hx'⟩|⟨_,Jh⟩
  .rcases h.over i g (by rw[<-g?_old (u:=u) hi];exact h1) h2 (sK hi h3) with⟨j,hj,hb⟩|hA
   .exact .inl ⟨j,g?_app hj,hb_app u hb⟩
   exact .inr hA
  rw[(hu x Jh).1] at KD;exact .inr (KD▸hk)
 .rw[iN _ _ _ fun op hop=>(hu op hop).2.2.1];exact h.hears
 .rw[iN _ _ _ fun op hop=>(hu op hop).2.2.1];exact h.wZ g PG
 exact seen_app (fun op hop=>MemAct.low_mono hB (h.seen op hop)) fun op hop=>(hu op hop).2.2.2
theorem fJ(hn:∀op∈u,op.act.touch?=none){i:Nat}{a:Touch}(h:touchAt (t++u) i=some a):i<t.size/\touchAt t i=some a:=by
 obtain⟨x,hx,yy⟩:=touch_of h;rcases iI hx with⟨hi,hx'⟩|⟨_,Jh⟩
 .exact⟨hi,by rw[touchAt_of hx'];exact yy⟩
 rw[hn x Jh] at yy;cases yy
theorem Dq(h:∀said,¬Race said t)(hn:∀op∈u,op.act.touch?=none)(said:Bool):¬Race said (t++u):=by
 rintro⟨i,j,VY,⟨a,b,ha,hb,hc⟩,n1,n2⟩;obtain⟨hi,ha'⟩:=fJ hn ha;obtain⟨hj,hb'⟩:=fJ hn hb;exact h said ⟨i,j,VY,⟨a,b,ha',hb',hc⟩,fun e=>n1 (hb_app u e),fun e=>n2 (hb_app u e)⟩
theorem PT.appMute(h:PT A S O B t)(hB:B<=B')(hn:∀op∈u,op.act.touch?=none/\oQ op/\op.act.low B')(hA:∀g,A' g->A g)(hK:∀g,A g->¬A' g->∀i,Knows t g i->Knows (t++u) 0 i/\∃j,(t++u).g? j=some 0/\HappensBefore (t++u) i j):PT A' S O B' (t++u):=by
 have hn':=fun op hop=>(hn op hop).1;refine⟨Dq h.clean hn',fun i a c ha hc=>?_,fun g hg i a c ha hc hs hw=>?_,fun g hg i a c ha hc ho=>?_,fun i g h1 h2 h3=>?_,?_,fun g hg=>?_,?_,fun g hg=>h.pos g (hA g hg)⟩
 .obtain⟨hi,ha'⟩:=fJ hn' ha;rcases h.known i a c ha' hc with hk|⟨g,hg,PE,MZ⟩
  .exact .inl (hk.app u)
  by_cases Hj:A' g
  .exact .inr ⟨g,Hj,g?_app PE,MZ⟩
  obtain⟨x,hx,KD⟩:=eW.1 PE;have hkn:=knows_own hx;rw[KD] at hkn;exact .inl (hK g hg Hj i hkn).1
 .obtain⟨hi,ha'⟩:=fJ hn' ha;exact(h.wk g (hA g hg) i a c ha' hc hs hw).app u
 .obtain⟨hi,ha'⟩:=fJ hn' ha;exact g?_app (h.ow g (hA g hg) i a c ha' hc ho)
 .obtain⟨x,c,hx,_⟩:=A3 h3;obtain⟨hi,_⟩:=fJ hn' hx;have PE:t.g? i=some g:=by rw[<-g?_old (u:=u) hi];exact h1
  rcases h.over i g PE h2 (sK hi h3) with⟨j,hj,hb⟩|PG
  .exact .inl ⟨j,g?_app hj,hb_app u hb⟩
  by_cases Hj:A' g
  .exact .inr Hj
  obtain⟨x,hx,KD⟩:=eW.1 PE;have hkn:=knows_own hx;rw[KD] at hkn;exact .inl (hK g PG Hj i hkn).2
 .rw[iN _ _ _ fun op hop=>(hn op hop).2.1];exact h.hears
 .rw[iN _ _ _ fun op hop=>(hn op hop).2.1];exact h.wZ g (hA g hg)
 exact seen_app (fun op hop=>MemAct.low_mono hB (h.seen op hop)) fun op hop=>(hn op hop).2.2
end
section
variable{A A':Nat->Prop}{S O S' O':Nat->Nat->Prop}{B B':Nat}{t u:Trace}
theorem W_{g:Nat}(hu:∀op∈u,oQ op):∀m,m<=u.size->(t++u).deaf g (t.size+m)=Deaf t g:=by
 intro m
 induction m with
 |zero=>intro _;exact deaf_old (aJ _)
 |succ m ih=>
  intro hm
  have ab8:(t++u)[t.size+m]?=some u[m]:=by
   rw[Array.getElem?_append_right oN,tS,aN oN]
  rw[show t.size+(m+1)=t.size+m+1 by omega,deaf_succ ab8,ih oN];have hy:=hu u[m] (Array.getElem_mem _);unfold deafStep;split
  .rename_i e;exact absurd e hy.1
  .rename_i e;exact absurd e hy.2
  rfl
theorem heard_new(hu:∀op∈u,oQ op){m:Nat}{x:MemOp}(hx:u[m]?=some x)(hd:Deaf t x.g=0):(t++u).heard (t.size+m):=by
 have hm:m<u.size:=(ag.1 hx).1;refine⟨x.g,?_,?_⟩
 .rw[Trace.g?,Array.getElem?_append_right oN,tS,hx];rfl
 rw[W_ hu m oN];exact hd
theorem Wa(hu:∀op∈u,oQ op){k c n m m':Nat}{x y:MemOp}(hx:u[m]?=some x)(hy:u[m']?=some y)(Q_:x.g=k)(yy:x.act=.send c n)(MT:y.g=0)(hya:y.act=.recvDone c n)
  (Ol:Deaf t k=0) (hd0:Deaf t 0=0) {i:Nat} (h:Knows t k i):Knows (t++u) 0 i/\∃j,(t++u).g? j=some 0/\HappensBefore (t++u) i j:=by
 have hxp:(t++u)[t.size+m]?=some x:=by rw[Array.getElem?_append_right oN,tS,hx]
 have hyp:(t++u)[t.size+m']?=some y:=by rw[Array.getElem?_append_right oN,tS,hy]
 have h1:=h.hb_new oN hxp Q_;have e:HappensBefore (t++u) (t.size+m) (t.size+m'):=.single (.inr ⟨.handOver (c:=c) (k:=n) (by rw[act?_of hxp,yy]) (by rw[act?_of hyp,hya]),heard_new hu hx (by rw[Q_];exact Ol),heard_new hu hy (by rw[MT];exact hd0)⟩);have h2:=h1.trans e;exact⟨⟨_,y,hyp,MT,.inr h2⟩,_,by simp[Trace.g?,hyp,MT],h2⟩
def JJ(k c n:Nat)(u:Trace):Prop:=∃f1 p1 f2 p2 f3 p3 f4 p4 cap,u = #[{ g:=k,fn:=f1,pos:=p1,act:=.send c n },{ g:=0,fn:=f2,pos:=p2,act:=.recv c n cap },{ g:=k,fn:=f3,pos:=p3,act:=.sendDone c n },{ g:=0,fn:=f4,pos:=p4,act:=.recvDone c n }]
theorem JJ.mute{k c n:Nat}(h:JJ k c n u)(hc:c<B'):∀op∈u,op.act.touch?=none/\oQ op/\op.act.low B':=by
 obtain⟨f1,p1,f2,p2,f3,p3,f4,p4,cap,rfl⟩:=h;intro op hop;simp only[fp,bQ,g_,or_false] at hop;rcases hop with rfl|rfl|rfl|rfl<;>exact⟨rfl,⟨sN,sN⟩,hc⟩
theorem PT.aeh(h:PT A S O B t)(hB:B<=B'){k c n:Nat}(hu:JJ k c n u)(hc:c<B')(hk:A k)(hA:∀g,A' g↔A g\/False):PT A' S O B' (t++u):=
 h.appMute hB (hu.mute hc) (fun g hg=>((hA g).1 hg).resolve_right id) fun g hg hn=>absurd ((hA g).2 (.inl hg)) hn
theorem PT.Sd(h:PT A S O B t)(hB:B<=B'){k c n:Nat}(hu:JJ k c n u)(hc:c<B')(hk:A k):PT (fun g=>A g/\g≠k) S O B' (t++u):=by
 refine h.appMute hB (hu.mute hc) (fun g hg=>hg.1) fun g hg hn i hkn=>?_;have e:g=k:=Classical.byContradiction fun e=>hn ⟨hg,e⟩;subst e;have hw:=fun op hop=>(hu.mute hc op hop).2.1;have hd0:=h.hears;have Ol:=h.wZ g hk;obtain⟨f1,p1,f2,p2,f3,p3,f4,p4,cap,rfl⟩:=hu;exact Wa hw (m:=0) (m':=3) rfl rfl rfl rfl rfl rfl Ol hd0 hkn
theorem PT.spawn(h:PT A S O B t)(hB:B<=B'){k:Nat}(hk:¬A k)(hk0:k≠0)(Ol:Deaf t k=0){x y:MemOp}(hx:x.g=0/\x.act=.go k)(hy:y.g=k/\y.act=.start){Sk:Nat->Prop}(hs:∀g,A g->∀c,Sk c->¬O g c) :
  PT (fun g=>A g\/g=k) (fun g=>if g=k then Sk else S g) (fun g=>if g=k then fun _=>False else O g) B' (t++#[x,y]):=by
 have hn:∀op∈#[x,y],op.act.touch?=none/\oQ op/\op.act.low B':=by
  intro op hop;simp only[fp,bQ,g_,or_false] at hop;rcases hop with rfl|rfl
  .rw[hx.2];exact⟨rfl,⟨by rw[hx.2];simp,by rw[hx.2];simp⟩,trivial⟩
  rw[hy.2];exact⟨rfl,⟨by rw[hy.2];simp,by rw[hy.2];simp⟩,trivial⟩
 have hn':=fun op hop=>(hn op hop).1;have h1:PT A S O B' (t++#[x,y]):=h.appMute hB hn (fun g hg=>hg) fun g hg hn=>absurd hg hn;have hne:∀g,A g->g≠k:=fun g hg e=>hk (e▸hg);refine⟨h1.clean,fun i a c ha hc=>?_,fun g hg i a c ha hc hs' hw=>?_,fun g hg i a c ha hc ho=>?_,fun i g e1 e2 e3=>(h1.over i g e1 e2 e3).imp id .inl,h1.hears,fun g hg=>?_,h1.seen,fun g hg=>?_⟩
 .rcases h1.known i a c ha hc with rC|⟨g,hg,PE,MZ⟩
  .exact .inl rC
  exact .inr ⟨g,.inl hg,PE,by simpa only[hne g hg,if_false] using MZ⟩
 .by_cases e:g=k
  .subst e;simp only[if_true] at hs';obtain⟨_,ha'⟩:=fJ hn' ha;rcases h.known i a c ha' hc with rC|⟨g',Hj,_,MZ⟩
   .exact Go.ConcN.fork_knows hx hy h.hears Ol rC
   rcases MZ with ho|⟨hw',_⟩
   .exact absurd ho (hs g' Hj c hs')
   rw[hw] at hw';cases hw'
  simp only[e,if_false] at hs';exact h1.wk g (hg.resolve_right e) i a c ha hc hs' hw
 .by_cases e:g=k
  .simp only[e,if_true] at ho
  simp only[e,if_false] at ho;exact h1.ow g (hg.resolve_right e) i a c ha hc ho
 .rcases hg with hg|rfl
  .exact h1.wZ g hg
  rw[iN _ _ _ fun op hop=>(hn op hop).2.1];exact Ol
 rcases hg with hg|rfl
 .exact h1.pos g hg
 exact hk0
end
section
variable{P:aK}
theorem Gv(q:dV){α:Type}(f:Nat->iZ α)(n:Nat)(hn:0<n)(hq:q=.select n\/∃what,q=.extern what n)(w:ak):∃a d,a<n/\(Bp q >>= f).run P w=(f a).run P (w.at d):=by
 have e:(Bp q >>= f).run P w=if q.forced then(f 0).run P w else(f (q.cut (w.tape w.drawn q))).run P { w with drawn:=w.drawn+1 }:=rfl
 rw[e]
 by_cases hf:q.forced=true
 .exact⟨0,w.drawn,hn,by rw[if_pos hf];rfl⟩
 refine⟨_,w.drawn+1,?_,by rw[if_neg hf];rfl⟩;rcases hq with rfl|⟨what,rfl⟩
 .simp only[Question.cut];exact Nat.mod_lt _ hn
 simp only[Question.cut];rw[if_neg oN];exact Nat.mod_lt _ hn
def Ka(ready:List (Nat × nA × List Way)):iZ (Nat × nA × Way):=do
 let a <-Bp (.select ready.length);let (k,c,ws):=ready.getD a (0,default,[])
 let b <-Bp (.extern "which waiting goroutine is the partner" ws.length)
 pure (k,c,ws.getD b .closed)
theorem UW(ready:List (Nat × nA × List Way))(hne:ready≠[])(hw:∀x∈ready,x.2.2≠[])(w:ak) :
  ∃x∈ready,∃y∈x.2.2,∃d,(Ka ready).run P w=.ok (x.1,x.2.1,y) (w.at d):=by
 unfold Ka
 obtain⟨a,d,ha,e⟩:=Gv (P:=P) (.select ready.length) (fun a=>do
  let (k,c,ws):=ready.getD a (0,default,[])
  let b <-Bp (.extern "which waiting goroutine is the partner" ws.length)
  pure (k,c,ws.getD b .closed)) ready.length (dB.2 hne) (.inl rfl) w
 rw[e];have hx:ready.getD a (0,default,[])=ready[a]:=by simp[List.getD,ha]
 rw[hx];have hmem:ready[a]∈ready:=bS ha;generalize ready[a]=x at hmem;obtain⟨k,c,ws⟩:=x;have Lx:=hw _ hmem;dsimp only at Lx ⊢
 obtain⟨b,d',hb,e2⟩:=Gv (P:=P) (.extern "which waiting goroutine is the partner" ws.length) (fun b=>(pure (k,c,ws.getD b .closed):iZ (Nat × nA × Way))) ws.length (dB.2 Lx) (.inr ⟨_,rfl⟩) (w.at d);refine⟨_,hmem,ws[b],bS hb,d',?_⟩;rw[e2];have:ws.getD b .closed=ws[b]:=by simp[List.getD,hb]
 rw[this];rfl
variable{gs:Array aC}{w w₁:ak}{sl:Option (Nat × Nat)}{i:Nat}{g g₂:aC}{es:Array gO}{c0 c1 s0 r0 s1 r1:Nat}{t0 t1:Bool}{z0 z1:ai}
theorem tU{w:ak}{gs:Array aC}{c s r:Nat}{tm:Bool}{z:ai}(hc:w.heap[c]?=some (.chan 0 #[] false s r tm)):ways w gs (rcase c z)=(yi gs c true).map fun(h,k)=>Way.partner h k:=by
 simp only[ways,rcase,hc];cases yi gs c true with
 |nil=>simp
 |cons p ps=>simp
theorem Ig(hi:gs[i]?=some g)(h:fE P (i==0) g w=.comm g₂ #[rcase c0 z0,rcase c1 z1] true .select w₁ es)
  (h0:w₁.heap[c0]?=some (.chan 0 #[] false s0 r0 t0)) (h1:w₁.heap[c1]?=some (.chan 0 #[] false s1 r1 t1))
  (hne:yi (gs.setIfInBounds i ph) c0 true≠[]\/yi (gs.setIfInBounds i ph) c1 true≠[])
  (hall:∀c,c=c0\/c=c1->∀j k,(j,k)∈yi (gs.setIfInBounds i ph) c true->k=0/\j≠i/\∃gj vj zj shj,gs[j]?=some (iP gj #[og c vj zj] shj)) :
  ∃(kk c s r:Nat) (tm:Bool) (j:Nat) (gj:aC) (vj zj:ai) (shj:CommShape) (d:Nat),((kk=0/\c=c0/\s=s0/\r=r0/\tm=t0)\/(kk=1/\c=c1/\s=s1/\r=r1/\tm=t1))/\j≠i/\gs[j]?=some (iP gj #[og c vj zj] shj)/\
   runT P (crowd gs w sl) i=(.next (crowd ((gs.setIfInBounds j (gj.finishComm P #[og c vj zj] shj 0 au false)).setIfInBounds i (g₂.finishComm P #[rcase c0 z0,rcase c1 z1] .select kk vj true)) ((w₁.at d).setChan c 0 #[] false (s+1) (r+1) tm) sl),
    iQ i g.frame.fn g.frame.place es++#[{ g:=j,fn:=gj.frame.fn,pos:=gj.frame.place,act:=.send c s },{ g:=i,fn:=g₂.frame.fn,pos:=g₂.frame.place,act:=.recv c r 0 },
     { g:=j,fn:=gj.frame.fn,pos:=gj.frame.place,act:=.sendDone c s },{ g:=i,fn:=g₂.frame.fn,pos:=g₂.frame.place,act:=.recvDone c r }]):=by
 have hw0:=tU (gs:=gs.setIfInBounds i ph) (z:=z0) h0;have hw1:=tU (gs:=gs.setIfInBounds i ph) (z:=z1) h1;generalize hL:((#[rcase c0 z0,rcase c1 z1].zipIdx.toList.map fun(c,k)=>(k,c,ways w₁ (gs.setIfInBounds i ph) c)).filter fun(_,_,ws)=>!ws.isEmpty)=L
 have hmem:∀x,x∈L↔(x=(0,rcase c0 z0,ways w₁ (gs.setIfInBounds i ph) (rcase c0 z0))\/x=(1,rcase c1 z1,ways w₁ (gs.setIfInBounds i ph) (rcase c1 z1)))/\x.2.2≠[]:=by
  intro x;rw[<-hL];simp[List.mem_filter]
 have af4:L≠[]:=by
  intro e;rcases hne with hn|hn
  .have:=(hmem _).2 ⟨.inl rfl,by rw[hw0];simpa using hn⟩;rw[e] at this;cases this
  have:=(hmem _).2 ⟨.inr rfl,by rw[hw1];simpa using hn⟩;rw[e] at this;cases this
 obtain⟨x,hx,y,hy,d,aas⟩:=UW (P:=P) L af4 (fun x hx=>((hmem x).1 hx).2) w₁
 have ab4 : #[rcase c0 z0,rcase c1 z1].any (illMade w₁)=false:=by
  refine any_ill fun cc hcc=>?_;simp only[fp,bQ,g_,or_false] at hcc;rcases hcc with rfl|rfl
  .exact made_recv z0 h0
  exact made_recv z1 h1
 have key:∀(kk c s r:Nat) (tm:Bool) (z:ai),w₁.heap[c]?=some (.chan 0 #[] false s r tm)->(c=c0\/c=c1)->∀y,y∈((yi (gs.setIfInBounds i ph) c true).map fun(h,k)=>Way.partner h k)->(Ka L).run P w₁=.ok (kk,rcase c z,y) (w₁.at d)->
   ∃(j:Nat) (gj:aC) (vj zj:ai) (shj:CommShape),j≠i/\gs[j]?=some (iP gj #[og c vj zj] shj)/\
   runT P (crowd gs w sl) i=(.next (crowd ((gs.setIfInBounds j (gj.finishComm P #[og c vj zj] shj 0 au false)).setIfInBounds i (g₂.finishComm P #[rcase c0 z0,rcase c1 z1] .select kk vj true)) ((w₁.at d).setChan c 0 #[] false (s+1) (r+1) tm) sl),
    iQ i g.frame.fn g.frame.place es++#[{ g:=j,fn:=gj.frame.fn,pos:=gj.frame.place,act:=.send c s },{ g:=i,fn:=g₂.frame.fn,pos:=g₂.frame.place,act:=.recv c r 0 },
     { g:=j,fn:=gj.frame.fn,pos:=gj.frame.place,act:=.sendDone c s },{ g:=i,fn:=g₂.frame.fn,pos:=g₂.frame.place,act:=.recvDone c r }]):=by
  intro kk c s r tm z hc hcc y hy Hi;obtain⟨⟨j,k⟩,hjk,rfl⟩:=List.mem_map.1 hy;obtain⟨rfl,VY,gj,vj,zj,shj,hj⟩:=hall c hcc j k hjk;refine⟨j,gj,vj,zj,shj,VY,hj,?_⟩;have hj':=stand_get (i:=i) VY hj;have hfp:=finishPartner_at P (gs.setIfInBounds i ph) hj' (cs:=#[og c vj zj]) (sh:=shj) rfl 0 au;have hgd:(gs.setIfInBounds i ph).getD j default=iP gj #[og c vj zj] shj:=by rw[aZ,hj'];rfl
  have jA:offeredValue (gs.setIfInBounds i ph) j 0=vj:=by simp[offeredValue,hj',iP,og]
  rw[Go.Conc.runT_crowd_comm hi h];unfold communicate;unfold Ka at Hi
  have hLe:L.isEmpty=false:=by cases L with
   |nil=>exact absurd rfl af4
   |cons a l=>rfl
  simp only[hL,hLe,bF,if_false,Hi];have hcd:(w₁.at d).heap[c]?=some (.chan 0 #[] false s r tm):=hc;rw[if_neg]
  .simp[rcase,hcd,hfp,hgd,jA,set_stand2,og,iP,World.setChan,crowd];rfl
  rw[Bool.not_eq_true];exact ab4
 rcases((hmem x).1 hx).1 with rfl|rfl
 .obtain⟨j,gj,vj,zj,shj,h5,h6,h7⟩:=key 0 c0 s0 r0 t0 z0 h0 (.inl rfl) y (by rw[<-hw0];exact hy) aas;exact⟨0,c0,s0,r0,t0,j,gj,vj,zj,shj,d,.inl ⟨rfl,rfl,rfl,rfl,rfl⟩,h5,h6,h7⟩
 obtain⟨j,gj,vj,zj,shj,h5,h6,h7⟩:=key 1 c1 s1 r1 t1 z1 h1 (.inr rfl) y (by rw[<-hw1];exact hy) aas;exact⟨1,c1,s1,r1,t1,j,gj,vj,zj,shj,d,.inr ⟨rfl,rfl,rfl,rfl,rfl⟩,h5,h6,h7⟩
end
inductive qd{α:Type}(R:α->α->Prop):List α->List α->Prop
 |nil:qd R [] []
 |cons {x y:α} {l m:List α}:R x y->qd R l m->qd R (x::l) (y::m)
inductive LT{α:Type}(D E:α->α->Prop):List α->List α->Prop
 |drop {x:α} {l l':List α}:qd E l' l->LT D E l' (x::l)
 |head {x x':α} {l l':List α}:D x' x->qd E l' l->LT D E (x'::l') (x::l)
 |tail {x x':α} {l l':List α}:E x' x->LT D E l' l->LT D E (x'::l') (x::l)
section
variable{α:Type}{D E:α->α->Prop}
theorem qd.refl(hr:∀x,E x x):∀l,qd E l l
 |[]=>.nil
 |x::l=>.cons (hr x) (qd.refl hr l)
theorem qd.trans(ht:∀x y z,E x y->E y z->E x z){a b c:List α}(h:qd E a b):qd E b c->qd E a c:=by
 induction h generalizing c with
 |nil=>intro h;exact h
 |cons h1 _ ih=>intro h2;cases h2 with|cons h3 h4=>exact .cons (ht _ _ _ h1 h3) (ih h4)
theorem LT.shift(ht:∀x y z,E x y->E y z->E x z)(hd:∀x y z,D x y->E y z->D x z){a b c:List α}(h:LT D E a b):qd E b c->LT D E a c:=by
 induction h generalizing c with
 |drop h=>intro h2;cases h2 with|cons h3 h4=>exact .drop (h.trans ht h4)
 |head h1 h=>intro h2;cases h2 with|cons h3 h4=>exact .head (hd _ _ _ h1 h3) (h.trans ht h4)
 |tail h1 _ ih=>intro h2;cases h2 with|cons h3 h4=>exact .tail (ht _ _ _ h1 h3) (ih h4)
theorem CG(ht:∀x y z,E x y->E y z->E x z)(hd:∀x y z,D x y->E y z->D x z){l l':List α}(h:Acc (LT D E) l)(he:qd E l' l):Acc (LT D E) l':=
 ⟨_,fun m hm=>h.inv (hm.shift ht hd he)⟩
theorem GY(hr:∀x,E x x)(ht:∀x y z,E x y->E y z->E x z)(hd:∀x y z,D x y->E y z->D x z):∀l:List α,(∀x∈l,Acc D x)->Acc (LT D E) l
 |[],_=>⟨_,fun m hm=>by cases hm⟩
 |x::l,h=>by
  have hx:=h x sN;have hl:=GY hr ht hd l fun y hy=>h y (by simp[hy]);clear h
  induction hx generalizing l with
  |intro x _ ihx=>
   induction hl with
   |intro l hl ihl=>
    refine⟨_,fun m hm=>?_⟩;have zm:Acc (LT D E) l:=⟨_,hl⟩
    cases hm with
    |drop h=>exact CG ht hd zm h
    |head h1 h2=>exact ihx _ h1 _ (CG ht hd zm h2)
    |tail h1 h2=>exact CG ht hd (ihl _ h2) (.cons h1 (.refl hr _))
theorem qd.of_map{f:α->α}(h:∀x,E (f x) x):∀l:List α,qd E (l.map f) l
 |[]=>.nil
 |x::l=>.cons (h x) (qd.of_map h l)
theorem LT.mid{f:α->α}(h:∀x,E (f x) x){x x':α}(hd:D x' x)(l2:List α):∀l1:List α,LT D E (l1.map f++x'::l2.map f) (l1++x::l2)
 |[]=>.head hd (.of_map h l2)
 |y::l=>.tail (h y) (LT.mid h hd l2 l)
end
section
variable(P:aK)(c0 c1:Nat)
def zS:Value:=.tuple #[]
def AtSend(c:Nat)(v:ai)(g:aC):Prop:=g.status=.running/\g.dying=none/\g.offers=none/\∀w,fE P false g w=.comm g #[og c v zS] true .send w #[]
inductive iq(S:Nat->Prop)(p:ai):Bool->(Nat->Prop)->aC->ak->Prop
 |step {b:Bool} {O:Nat->Prop} {g:aC} {w:ak}:g.status=.running->g.dying=none->
   (∀w1,ja (fun c=>S c\/O c) w w1->∃g2 w2 es,fE P false g w1=.go g2 w2 es/\Lt S O w1 w2 es/\g2.status=.running/\g2.dying=none)->
   (∀w1,ja (fun c=>S c\/O c) w w1->∀g2 w2 es,fE P false g w1=.go g2 w2 es->iq S p b (own O w1 w2) g2 w2)->iq S p b O g w
 |C8 {O:Nat->Prop} {g:aC} {w:ak}:AtSend P c0 p g->iq S p false O (fG g au) w->iq S p true O g w
 |C7 {O:Nat->Prop} {g:aC} {w:ak} {n:Nat}:AtSend P c1 (.bool true) g->QuitsD P n 0 (fG g au)->iq S p false O g w
theorem iq.rely{S:Nat->Prop}{p:ai}{b:Bool}{O:Nat->Prop}{g:aC}{w:ak}(h:iq P c0 c1 S p b O g w):∀ {w1:ak},ja (fun c=>S c\/O c) w w1->iq P c0 c1 S p b O g w1:=by
 induction h with
 |step a b c d _=>intro w1 hr;exact .step a b (fun w2 h2=>c w2 (hr.trans h2)) fun w2 h2=>d w2 (hr.trans h2)
 |C8 h _ ih=>intro w1 hr;exact .C8 h (ih hr)
 |C7 h hq=>intro w1 hr;exact .C7 h hq
theorem iq.Ki{S:Nat->Prop}{p:ai}{b:Bool}{Stop:(Nat->Prop)->aC->ak->Prop}{O:Nat->Prop}{g:aC}{w:ak}(h:Walk P false S Stop O g w)(k:∀O g w,Stop O g w->iq P c0 c1 S p b O g w):iq P c0 c1 S p b O g w:=by
 induction h with
 |@stop O g w h=>exact k _ _ _ (h w (.refl _ _))
 |step a b c d ih=>exact .step a b c ih
structure X where
 id:Nat
 S:Nat->Prop
 p:ai
 b:Bool
 O:Nat->Prop
 g:aC
 w:ak
def X.at(w:ak)(x:X):X:={ x with w:=w }
inductive WS:X->Prop
 |run {x:X}:iq P c0 c1 x.S x.p x.b x.O x.g x.w->WS x
 |vA {x:X} {g:aC}:x.b=true->AtSend P c0 x.p g->iq P c0 c1 x.S x.p false x.O (fG g au) x.w->x.g=iP g #[og c0 x.p zS] .send->WS x
 |vz {x:X} {g:aC} {n:Nat}:x.b=false->AtSend P c1 (.bool true) g->QuitsD P n 0 (fG g au)->x.g=iP g #[og c1 (.bool true) zS] .send->WS x
def Sh(x' x:X):Prop:=∃w,ja (fun c=>x.S c\/x.O c) x.w w/\x'=x.at w
inductive Dn:X->X->Prop
 |step {x x':X} {w1 w2:ak} {g2:aC} {es:Array gO}:x.g.status=.running->ja (fun c=>x.S c\/x.O c) x.w w1->fE P false x.g w1=.go g2 w2 es->Sh x' { x with O:=own x.O w1 w2,g:=g2,w:=w2 }->Dn x' x
 |Ah {x x':X} {c:Nat} {v:ai}:AtSend P c v x.g->Sh x' { x with g:=iP x.g #[og c v zS] .send }->Dn x' x
 |aL {x x':X} {g:aC}:x.b=true->AtSend P c0 x.p g->(x.g=g\/x.g=iP g #[og c0 x.p zS] .send)->Sh x' { x with b:=false,g:=fG g au }->Dn x' x
theorem m7(x:X):Sh x x:=⟨x.w,.refl _ _,rfl⟩
theorem pg(x y z:X)(h:Sh x y)(h':Sh y z):Sh x z:=by
 obtain⟨w,hr,rfl⟩:=h;obtain⟨w',hr',rfl⟩:=h';exact⟨w,hr'.trans hr,rfl⟩
theorem Gl(x y z:X)(h:Dn P c0 x y)(h':Sh y z):Dn P c0 x z:=by
 obtain⟨w,hr,rfl⟩:=h';cases h with
 |step h1 h2 h3 h4=>exact .step h1 (hr.trans h2) h3 h4
 |Ah h1 h2=>
  obtain⟨w2,hr2,rfl⟩:=h2;exact .Ah h1 ⟨w2,hr.trans hr2,rfl⟩
 |aL h1 h2 h3 h4=>
  obtain⟨w2,hr2,rfl⟩:=h4;exact .aL h1 h2 h3 ⟨w2,hr.trans hr2,rfl⟩
theorem GZ{x x':X}(h:Acc (Dn P c0) x)(he:Sh x' x):Acc (Dn P c0) x':=⟨_,fun y hy=>h.inv (Gl P c0 _ _ _ hy he)⟩
theorem tL{c c':Nat}{v v':ai}{g:aC}{cs:Array nA}{sh:CommShape}(h:AtSend P c v (iP g cs sh)):False:=by cases h.1
theorem CD{S:Nat->Prop}{p:ai}{b:Bool}{O:Nat->Prop}{g:aC}{w:ak}(h:iq P c0 c1 S p b O g w)(id:Nat):Acc (Dn P c0) ⟨id,S,p,b,O,g,w⟩:=by
 induction h with
 |@step b O g w hr hd hc hk ih=>
  refine⟨_,fun y hy=>?_⟩;obtain⟨g2,w2,es,he,_⟩:=hc w (.refl _ _);cases hy with
  |step h1 h2 h3 h4=>exact GZ P c0 (ih _ h2 _ _ _ h3) h4
  |Ah h1 h2=>have:=h1.2.2.2 w;dsimp only at this;rw[he] at this;cases this
  |aL h1 h2 h3 h4=>
   rcases h3 with h3|h3
   .dsimp only at h3;subst h3;have:=h2.2.2.2 w;rw[he] at this;cases this
   dsimp only at h3;subst h3;cases hr
 |@C8 O g w ha _ ih=>
  have hp:Acc (Dn P c0) ⟨id,S,p,true,O,iP g #[og c0 p zS] .send,w⟩:=by
   refine⟨_,fun y hy=>?_⟩;cases hy with
   |step h1 _ _ _=>cases h1
   |Ah h1 _=>exact(tL P (c':=0) (v':=p) h1).elim
   |@aL _ _ g0 h1 h2 h3 h4=>
    rcases h3 with h3|h3
    .dsimp only at h3;rw[<-h3] at h2;exact(tL P (c':=0) (v':=p) h2).elim
    dsimp only at h3
    have e:g=g0:=by
     have e1:g.frame=g0.frame:=by have:=congrArg Goroutine.frame h3;exact this
     have e2:g.callers=g0.callers:=by have:=congrArg Goroutine.callers h3;exact this
     have e3:=ha.1;have e4:=h2.1;have e5:=ha.2.1;have e6:=h2.2.1;have e7:=ha.2.2.1;have e8:=h2.2.2.1;cases g;cases g0;simp_all
    subst e;exact GZ P c0 ih h4
  refine⟨_,fun y hy=>?_⟩;cases hy with
  |step h1 h2 h3 h4=>dsimp only at h3;rw[ha.2.2.2] at h3;cases h3
  |@Ah _ _ c v h1 h2=>
   have e:=h1.2.2.2 w;dsimp only at e;rw[ha.2.2.2 w] at e;injection e with e1 e2
   have e3:og c0 p zS=og c v zS:=by injection e2 with e2;injection e2
   rw[<-e3] at h2;exact GZ P c0 hp h2
  |aL h1 h2 h3 h4=>
   rcases h3 with h3|h3
   .dsimp only at h3;subst h3;exact GZ P c0 ih h4
   dsimp only at h3;subst h3;cases ha.1
 |@C7 O g w n ha hq=>
  have hp:Acc (Dn P c0) ⟨id,S,p,false,O,iP g #[og c1 (.bool true) zS] .send,w⟩:=by
   refine⟨_,fun y hy=>?_⟩;cases hy with
   |step h1 _ _ _=>cases h1
   |Ah h1 _=>exact(tL P (c':=0) (v':=p) h1).elim
   |aL h1 _ _ _=>cases h1
  refine⟨_,fun y hy=>?_⟩;cases hy with
  |step h1 h2 h3 h4=>dsimp only at h3;rw[ha.2.2.2] at h3;cases h3
  |@Ah _ _ c v h1 h2=>
   have e:=h1.2.2.2 w;dsimp only at e;rw[ha.2.2.2 w] at e;injection e with e1 e2
   have e3:og c1 (.bool true) zS=og c v zS:=by injection e2 with e2;injection e2
   rw[<-e3] at h2;exact GZ P c0 hp h2
  |aL h1 _ _ _=>cases h1
end
end Go.Lag
