/- TWO PROGRAMS IN STEP: literals, append, calls; the operations of a reg .. -/
import Derived.Test.YtffladgmkiimjaaGreatDoorW09
import Derived.Conc.CrowdTrace
import Derived.Conc.CrowdSel
set_option linter.all false
set_option maxHeartbeats 100000000
set_option maxRecDepth 1000000
open Array renaming getElem?_eq_getElem → aM,getElem?_eq_some_iff → ak,empty_append → eO,all_eq_true' → jX,mapM_eq_mapM_toList → oT,toList_map → vC
open Bool renaming and_eq_true → aD,false_eq_true → bw
open Go renaming Goroutine → aB,Program → aI,TypeId → aZ,undef → af,Value → aj,World → ar,Operand → bH,Frame → bL,execOp → bY,FuncId → dR,stepG → eP,runtimePanic → eo,Event → fQ,zeroValue → iI,underlying → iL,Sem → ic,CallKind → jz,unwind → lI,typeInfo → lJ,CommCase → mI,Item → oO,unsupported → qJ,doReturn → tT,partners → wH,choose → zU
open Go.Builtin renaming firstCells → eN,zeroCells → fH,append_ → j6,mayShare → pK
open Go.Conc renaming served → eQ,getElem?_append_cases → gT,parked → ie,solo_eq_crowd → nj,scase → nz
open Go.Frame renaming enter → eh
open Go.GStep renaming after → Bf
open Go.MemOp renaming ofEvents → ij
open Go.stepG renaming exec → bX,apply → dZ,oper → eM
open List renaming getElem_mem → bO,mem_cons → bR,length_pos_iff → cQ,mem_map → cY,mem_toArray → eI,not_mem_nil → gh,cons_append → ik
open Nat renaming le_trans → aN,le_refl → ax,eq_zero_or_pos → iO,add_sub_cancel_left → rP
open Option renaming map_some → dI,map_eq_some_iff → eD,bind_some → gg
open Option.some renaming injEq → gw
open Pure renaming pure → eH
namespace Go.Lag
open Go.Conc
section
variable{P:aI}{F:Nat→Bool}{α β γ δ:Type}{A:Rn→α→β→Prop}{A':Rn→γ→δ→Prop}{ρ:Rn}
inductive PL(F:Nat→Bool)(ρ:Rn):List (Nat × aj)→List (Nat × aj)→Prop
 |nil:PL F ρ [] []
 |cons {i:Nat} {x y:aj} {l m:List (Nat × aj)}:VR F ρ x y→PL F ρ l m→PL F ρ ((i,x)::l) ((i,y)::m)
theorem K6{off:Nat}{l m:List aj}(h:Rt F ρ l m):∀(j:Nat) {cs cs':Array aj},iD F ρ cs cs'→
  iD F ρ ((l.zipIdx j).foldl (fun cs (c,j)=>cs.setIfInBounds (off+j) c) cs) ((m.zipIdx j).foldl (fun cs (c,j)=>cs.setIfInBounds (off+j) c) cs'):=by
 induction h with
 |nil=>intro j cs cs' hc;exact hc
 |cons hx _ ih=>intro j cs cs' hc;simp only[List.zipIdx_cons,List.foldl_cons];exact ih (j+1) (hc.set hx _)
theorem Nu{place:Nat→Option (Nat × Nat)}{l m:List (Nat × aj)}(h:PL F ρ l m):∀ {cs cs':Array aj},iD F ρ cs cs'→
  (Instr.fill place cs l=none∧Instr.fill place cs' m=none)∨∃x y,Instr.fill place cs l=some x∧Instr.fill place cs' m=some y∧iD F ρ x y:=by
 induction h with
 |nil=>intro cs cs' hc;exact .inr ⟨cs,cs',rfl,rfl,hc⟩
 |@cons i x y l m hx _ ih=>
  intro cs cs' hc;simp only[Instr.fill];cases place i with
  |none=>exact .inl ⟨rfl,rfl⟩
  |some p=>
   obtain⟨off,size⟩:=p;simp only[←hx.cells.size,←hc.size];split
   ·exact .inl ⟨rfl,rfl⟩
   ·have:=K6 (off:=off) hx.cells.list 0 hc;refine ih ?_;simpa only[←Array.foldl_toList,Array.toList_zipIdx] using this
theorem Dp{ι κ:Type}{f:ι→ic κ}(hf:∀a,bP P F (Same ρ fun _=>True) ρ (f a) (f a))(l:Array ι):bP P F (Same ρ fun _=>True) ρ (l.mapM f) (l.mapM f):=by
 rw[oT]
 have:∀l:List ι,bP P F (Same ρ fun _=>True) ρ (l.mapM f) (l.mapM f):=by
  intro l;rw[←List.mapM'_eq_mapM]
  induction l with
  |nil=>exact cK
  |cons a l ih=>exact(hf a).bF fun _ _=>ih.bF fun _ _=>cK
 exact(this l.toList).bF fun _ _=>cK
theorem MA{t:aZ}(ht:og P t=true){l m:Array (Nat × aj)}(h:PL F ρ l.toList m.toList):bP P F (At ρ (VR F ρ)) ρ (Instr.build t l) (Instr.build t m):=by
 unfold Instr.build;refine(kQ ht).dG fun z z' hz=>?_;dsimp only;refine dn.bF fun ds _=>?_;cases ds with
 |struct fs=>
  refine(Dp (fun f=>gy.bF fun n _=>cK) fs).bF fun places _=>?_;rcases Nu (place:=(places[·]?)) h hz.cells with⟨h1,h2⟩|⟨x,y,h1,h2,h3⟩
  ·simp only[h1];exact bf
  ·simp only[h1,h2];exact .dt h3.agg
 |array n e=>
  refine gy.bF fun n _=>?_;rcases Nu (place:=fun i=>some (i*n,n)) h hz.cells with⟨h1,h2⟩|⟨x,y,h1,h2,h3⟩
  ·simp only[h1];exact bf
  ·simp only[h1,h2];exact .dt h3.agg
 |_=>exact bf
def yR(P:aI)(t:aZ):Bool:=match P.underlying t with|some (.slice e)=>og P e|_=>true
theorem T9:VR F ρ (default:aj) (default:aj):=zn (by rfl)
theorem iD.agR{a a':Array aj}(h:iD F ρ a a')(i:Nat):VR F ρ a[i]! a'[i]!:=by
 rw[Array.getElem!_eq_getD,Array.getElem!_eq_getD];exact h.getD T9 i
theorem Hk{a a':Array aj}(h:iD F ρ a a')(n:Nat):iD F ρ ((Array.range n).map (a[· % a.size]!)) ((Array.range n).map (a'[· % a'.size]!)):=by
 refine iD.map fun i _=>?_;rw[←h.size];exact h.agR _
theorem Ck{t:aZ}(ht:yR P t=true){n:Nat}{l m:Array (Nat × aj)}(h:PL F ρ l.toList m.toList):bP P F (VR F) ρ (Instr.buildSlice t n l) (Instr.buildSlice t n m):=by
 unfold Instr.buildSlice;refine dn.bF fun ds KQ=>?_;cases ds<;>first|exact bf|skip
 rename_i e;simp only[yR,KQ] at ht;refine gy.bF fun size _=>?_;dsimp only;split
 ·exact .dead ((eV (by simp)).bind _)
 ·have rest:∀ {z z':Array aj},iD F ρ z z'→bP P F (VR F) ρ
    (do
      let some cells:=Instr.fill (fun i=>some (i*size,size)) ((Array.range (n*size)).map (z[· % z.size]!)) l.toList|stuck "buildSlice: a part of the wrong size"
      pure (.slice (some (←newRow e cells)) n n))
    (do
      let some cells:=Instr.fill (fun i=>some (i*size,size)) ((Array.range (n*size)).map (z'[· % z'.size]!)) m.toList|stuck "buildSlice: a part of the wrong size"
      pure (.slice (some (←newRow e cells)) n n)):=by
   intro z z' hz;rcases Nu (place:=fun i=>some (i*size,size)) h (Hk hz (n*size)) with⟨h1,h2⟩|⟨x,y,h1,h2,h3⟩
   ·simp only[h1];exact bf
   ·simp only[h1,h2];exact bP.bind (uP h3) fun ρ' a a' _ ha=>.pure (.slice _ _ ha)
  split
  ·exact rest .nil
  ·exact(kQ ht).dG fun v v' hv=>rest hv.cells
def SD(P:aI)(ts:Array aZ):Bool:=match ts[0]? with|some t=>(match P.underlying t with|some (.slice _)|some (.array ..)|some .string=>true|_=>false)|none=>true
theorem R7{ts:Array aZ}(ht:SD P ts=true){t:aZ}{l m:Array aj}(h:iD F ρ l m):bP P F (At ρ (VR F ρ)) ρ (Builtin.len_ ts t l) (Builtin.len_ ts t m):=by
 unfold Builtin.len_;unfold SD at ht;cases hx:l[0]? with
 |none=>cases ts[0]?<;>exact bf
 |some x=>
  obtain⟨y,hy,hv⟩:=h.get hx;rw[hy];cases h0:ts[0]? with
  |none=>exact bf
  |some t0=>
   rw[h0] at ht;dsimp only at ht ⊢;refine dn.bF fun ds KQ=>?_;rw[KQ] at ht;cases ds<;>first|(cases ht;done)|skip
   all_goals (cases hv<;>first|exact bf|exact .dt (VR.int _ _))
theorem PR{x x' y y':aj}(hx:VR F ρ x x')(hy:VR F ρ y y'):bP P F (At ρ (VR F ρ)) ρ (Builtin.max2 x y) (Builtin.max2 x' y'):=by
 cases hx<;>cases hy<;>first
  |exact bf
  |exact cj (by simp)
  |exact .dt (.int _ _)
  |exact .dt (.string _)
theorem PQ{x x' y y':aj}(hx:VR F ρ x x')(hy:VR F ρ y y'):bP P F (At ρ (VR F ρ)) ρ (Builtin.min2 x y) (Builtin.min2 x' y'):=by
 cases hx<;>cases hy<;>first
  |exact bf
  |exact cj (by simp)
  |exact .dt (.int _ _)
  |exact .dt (.string _)
theorem BD{f:aj→aj→ic aj}(hf:∀ {x x' y y'},VR F ρ x x'→VR F ρ y y'→bP P F (At ρ (VR F ρ)) ρ (f x y) (f x' y')){l m:List aj}(h:Rt F ρ l m) :
  ∀ {x x':aj},VR F ρ x x'→bP P F (At ρ (VR F ρ)) ρ (l.foldlM f x) (m.foldlM f x'):=by
 induction h with
 |nil=>intro x x' hx;exact .dt hx
 |cons hy _ ih=>intro x x' hx;simp only[List.foldlM_cons];exact(hf hx hy).dG fun z z' hz=>ih hz
theorem R3{ts:Array aZ}{t:aZ}{l m:Array aj}(h:iD F ρ l m):bP P F (At ρ (VR F ρ)) ρ (Builtin.max_ ts t l) (Builtin.max_ ts t m):=by
 unfold Builtin.max_;have hl:=h.list;generalize l.toList=l' at hl ⊢;generalize m.toList=m' at hl ⊢;cases hl with
 |nil=>exact bf
 |cons hx hl=>exact BD PR hl hx
theorem R1{ts:Array aZ}{t:aZ}{l m:Array aj}(h:iD F ρ l m):bP P F (At ρ (VR F ρ)) ρ (Builtin.min_ ts t l) (Builtin.min_ ts t m):=by
 unfold Builtin.min_;have hl:=h.list;generalize l.toList=l' at hl ⊢;generalize m.toList=m' at hl ⊢;cases hl with
 |nil=>exact bf
 |cons hx hl=>exact BD PQ hl hx
end
section
variable{P:aI}{F:Nat→Bool}{α β γ δ:Type}{A:Rn→α→β→Prop}{A':Rn→γ→δ→Prop}{ρ:Rn}
def nV(P:aI)(s:ic α):Prop:=∀w es,(∃a w' es',s.runT P w es=(.ok a w',es'))∨∃h w' es',s.runT P w es=(.halt h w',es')∧Fh h
theorem nV.EF{s:ic α}{f:α→ic γ}(h:nV P s)(hf:∀a,qE P (f a)):qE P (s >>= f):=fun w es=>by
 show ∃h w' es',(s.bind f).runT P w es=_∧_;rw[Sem.runT_bind'];rcases h w es with⟨a,w',es',h1⟩|⟨e,w',es',h1,h2⟩
 ·rw[h1];exact hf a w' es'
 ·rw[h1];exact⟨e,w',es',rfl,h2⟩
theorem nV.bind{s:ic α}{f:α→ic γ}(h:nV P s)(hf:∀a,nV P (f a)):nV P (s >>= f):=fun w es=>by
 show(∃a w' es',(s.bind f).runT P w es=_)∨∃h w' es',(s.bind f).runT P w es=_∧_;rw[Sem.runT_bind'];rcases h w es with⟨a,w',es',h1⟩|⟨e,w',es',h1,h2⟩
 ·rw[h1];exact hf a w' es'
 ·rw[h1];exact .inr ⟨e,w',es',rfl,h2⟩
theorem mO{a:α}:nV P (eH a:ic α):=fun w es=>.inl ⟨a,w,es,rfl⟩
theorem Ji{r:Nat}:nV P (shape r):=fun w es=>.inl ⟨_,w,es,rfl⟩
theorem FZ{a:Addr}:nV P (frozen a):=fun w es=>.inl ⟨_,w,es,rfl⟩
theorem zE{a:Addr}{n:Nat}:nV P (Builtin.holdsCells a n):=by
 unfold Builtin.holdsCells;refine Ji.bind fun s=>?_;cases s<;>exact mO
theorem Cv{size oW n:Nat}{b:Option Addr}{x:aj}:nV P (pK size oW n b x):=by
 unfold pK
 have rest:∀there:Bool,nV P (if (!there)=true then(pure true:ic Bool) else match x with
   |.slice (some c) _ _=>do pure (!(←Builtin.holdsCells c (n*size))||b.any (·.block==c.block))
   |_=>pure false):=by
  intro there;split
  ·exact mO
  ·split
   ·exact zE.bind fun _=>mO
   ·exact mO
 cases b with
 |none=>exact mO.bind rest
 |some a=>exact zE.bind fun _=>FZ.bind fun _=>mO.bind rest
theorem My{x x':aj}(h:VR F ρ x x'):bP P F (Same ρ fun _=>True) ρ (Builtin.lenOf x) (Builtin.lenOf x'):=by
 cases h<;>first|exact bf|exact cK
theorem oV{x x':aj}(h:VR F ρ x x')(size n:Nat):bP P F (At ρ (iD F ρ)) ρ (eN size n x) (eN size n x'):=by
 cases h<;>first|exact bf|exact .dt .nil|exact uQ ‹_› _|exact .dt (iD.map fun _ _=>.int _ _)
theorem JI{z z':Array aj}(h:iD F ρ z z')(n:Nat):iD F ρ (fH z n) (fH z' n):=by
 unfold fH;rw[←h.size];have:=Hk h (n*z.size);rw[←h.size] at this;exact this
theorem Ia{n:Nat}:bP P F (At ρ fun _ _=>True) ρ (askRoom n) (askRoom n):=by
 unfold askRoom;split
 ·exact .noRoom (.dt trivial)
 ·exact .dt trivial
def okZ(P:aI)(t?:Option aZ):Bool:=match t? with|some t=>(match P.underlying t with|some (.int _)=>false|_=>true)|none=>true
def SE(P:aI)(ts:Array aZ):Bool:=
 (match ts[0]? with|some t=>yR P t|none=>true)&&okZ P ts[1]?
theorem Mw{t?:Option aZ}(ht:okZ P t?=true){J J':Bool→ic aj}(h:bP P F (VR F) ρ (J false) (J' false)) :
  bP P F (VR F) ρ (match (generalizing:=false) t? with|some t=>iL t >>= fun d=>(eH (match d with|.int _=>true|_=>false):ic Bool) >>= J|none=>(eH false:ic Bool) >>= J)
   (match (generalizing:=false) t? with|some t=>iL t >>= fun d=>(eH (match d with|.int _=>true|_=>false):ic Bool) >>= J'|none=>(eH false:ic Bool) >>= J'):=by
 cases t? with
 |none=>exact h
 |some t1=>
  refine dn.bF fun d1 hd1=>?_;simp only[okZ,hd1] at ht;cases d1<;>first|(cases ht;done)|exact h
theorem Ka{ts:Array aZ}(ht:SE P ts=true){t:aZ}{l m:Array aj}(h:iD F ρ l m):bP P F (VR F) ρ (j6 ts t l) (j6 ts t m):=by
 unfold j6;simp only[SE,aD] at ht;obtain⟨IZ,rN⟩:=ht;cases hx:l[0]? with
 |none=>cases ts[0]?<;>exact bf
 |some s=>
  obtain⟨s',hs',hsv⟩:=h.get hx;rw[hs'];cases h0:ts[0]? with
  |none=>exact bf
  |some t0=>
   cases hx1:l[1]? with
   |none=>exact bf
   |some x=>
    obtain⟨x',hx',hxv⟩:=h.get hx1;rw[hx'];rw[h0] at IZ;simp only at IZ;dsimp only;refine dn.bF fun ds KQ=>?_;cases ds<;>first|exact bf|skip
    rename_i e;simp only[yR,KQ] at IZ;dsimp only
    have main:∀ {b b':Option Addr} (sl sc:Nat),VR F ρ (.slice b sl sc) (.slice b' sl sc)→bP P F (VR F) ρ
      (do
        let size ←sizeOf e
        let zeros ←match ts[1]? with
         |some xType=>do pure ((←iL xType) matches .int _)
         |none=>pure false
        let n ←if zeros then do
          let l:=IntKind.i64.wrap (←asInt x)
          if l<0 then eo (.error "makeslice: len out of range")
          if l*(←lJ e).bytes>2 ^ 48 then
           let made ←zU (.extern "append.ofMake.carriedOut" 2)
           eo (.error (if made==1 then "makeslice: len out of range" else "growslice: len out of range"))
          pure l.toNat
         else Builtin.lenOf x
        let appended:ic (Array aj):=
         if !zeros then eN size n x
         else if n*size=0 then pure #[]
         else do pure (fH (←iI e).cells n)
        let need:=sl+n
        if need≤sc then
         let new ←appended
         if let some a:=b then storeCells (a.add (sl*size)) new.toList
         pure (.slice b need sc)
        else
         if (need:Int)>IntKind.i64.max∧(zeros∨(←lJ e).bytes=0) then eo (.error "growslice: len out of range")
         if Builtin.nextslicecap need sc*(←lJ e).bytes>2 ^ 48 then(if zeros then eo (.error "growslice: len out of range") else do
          if !(←pK size sl n b x) then mark .noRoom
          qJ (.resourceLimit "append: a slice or a string whose bytes no memory bears"))
         let mf ←zU (.appendCap need sc e)
         askRoom (mf*(←lJ e).bytes)
         let old ←eN size sl (.slice b sl sc);let new ←appended;let rest:=fH (←iI e).cells (mf-need)
         pure (.slice (some (←newRow e (old++new++rest))) need mf))
      (do
        let size ←sizeOf e
        let zeros ←match ts[1]? with
         |some xType=>do pure ((←iL xType) matches .int _)
         |none=>pure false
        let n ←if zeros then do
          let l:=IntKind.i64.wrap (←asInt x')
          if l<0 then eo (.error "makeslice: len out of range")
          if l*(←lJ e).bytes>2 ^ 48 then
           let made ←zU (.extern "append.ofMake.carriedOut" 2)
           eo (.error (if made==1 then "makeslice: len out of range" else "growslice: len out of range"))
          pure l.toNat
         else Builtin.lenOf x'
        let appended:ic (Array aj):=
         if !zeros then eN size n x'
         else if n*size=0 then pure #[]
         else do pure (fH (←iI e).cells n)
        let need:=sl+n
        if need≤sc then
         let new ←appended
         if let some a:=b' then storeCells (a.add (sl*size)) new.toList
         pure (.slice b' need sc)
        else
         if (need:Int)>IntKind.i64.max∧(zeros∨(←lJ e).bytes=0) then eo (.error "growslice: len out of range")
         if Builtin.nextslicecap need sc*(←lJ e).bytes>2 ^ 48 then(if zeros then eo (.error "growslice: len out of range") else do
          if !(←pK size sl n b' x') then mark .noRoom
          qJ (.resourceLimit "append: a slice or a string whose bytes no memory bears"))
         let mf ←zU (.appendCap need sc e)
         askRoom (mf*(←lJ e).bytes)
         let old ←eN size sl (.slice b' sl sc);let new ←appended;let rest:=fH (←iI e).cells (mf-need)
         pure (.slice (some (←newRow e (old++new++rest))) need mf)):=by
     intro b b' sl sc hb;refine gy.bF fun size _=>?_;refine Mw rN ?_;simp only[bw,if_false,false_or,Bool.not_false,if_true];refine(My hxv).bF fun n _=>?_;split
     ·refine(oV hxv size n).dG fun new afi hn=>?_;cases hb with
      |D6=>exact .pure (.D6 _ _)
      |slice _ _ ha=>exact(ua (ha.add _) hn.list 0).dG fun _ _ _=>.pure (.slice _ _ ha)
     ·refine jr.bF fun i _=>?_;split
      ·exact .dead ((o9 (by simp) (by simp)).bind _)
      ·refine jr.bF fun i _=>?_;split
       ·refine .dead ?_;refine qE.bind (Cv.EF fun a=>?_) _;cases a
        ·exact nV.EF (s:=mark .noRoom) (fun w es=>.inl ⟨(),w,_,rfl⟩) fun _=>eV (by simp)
        ·exact eV (by simp)
       ·refine uS.bF fun cap _=>jr.bF fun i _=>Ia.dG fun _ _ _=>?_;refine(oV hb size sl).dG fun old akK ho=>(oV hxv size n).dG fun new afi hn=>?_;refine(kQ IZ).dG fun z z' hz=>?_;exact bP.bind (uP ((ho.append hn).append (JI hz.cells _))) fun ρ' a a' _ ha=>.pure (.slice _ _ ha)
    cases hsv with
    |D6 sl sc=>exact main sl sc (.D6 _ _)
    |slice sl sc ha=>exact main sl sc (.slice _ _ ha)
    |_=>exact bf
inductive NR(F:Nat→Bool)(ρ:Rn):Next→Next→Prop
 |value {v v':aj}:VR F ρ v v'→NR F ρ (.value v) (.value v')
 |skip:NR F ρ .skip .skip
 |enter {f:dR} {l m:Array aj}:F f=true→iD F ρ l m→NR F ρ (.enter f l) (.enter f m)
 |send {ch v:aj} {n:Next}:NR F ρ (.comm #[{ chan:=ch,send:=some v,zero:=.tuple #[] }] true .send) n
theorem nJ{s s':ic aj}(h:bP P F (VR F) ρ s s'):bP P F (NR F) ρ (do pure (.value (←s))) (do pure (.value (←s'))):=h.bind fun ρ' v v' _ hv=>.pure (.value hv)
theorem gQ{s s':ic aj}(h:bP P F (At ρ (VR F ρ)) ρ s s'):bP P F (NR F) ρ (do pure (.value (←s))) (do pure (.value (←s'))):=h.dG fun v v' hv=>.pure (.value hv)
theorem Bv{s s':ic Unit}(h:bP P F (At ρ fun _ _=>True) ρ s s'):bP P F (NR F) ρ (do s;pure .skip) (do s';pure .skip):=h.dG fun _ _ _=>.pure .skip
def UM(P:aI)(F:Nat→Bool):Prop:=∀f,F f=true→∃fn,P.funcs[f]?=some fn∧fn.body.isSome=true∧(fn.name == "runtime.NumGoroutine")=false
theorem FA(hF:UM P F){f:dR}(hf:F f=true){l m:Array aj}(h:iD F ρ l m):bP P F (NR F) ρ (callFunc f l) (callFunc f m):=by
 obtain⟨fn,h1,h2,h3⟩:=hF f hf;unfold callFunc;refine j9 ?_;have h4:fn.body.isNone=false:=by cases hb:fn.body<;>simp_all
 simp only[h1,h3,h4,bw,if_false];exact .pure (.enter hf h)
def Ai(F:Nat→Bool):bH→Bool
 |.tmp _=>true
 |.const v=>EB v
 |.global _=>false
 |.func f=>F f
def okB(P:aI)(ts:Array aZ):Builtin→Bool
 |.append=>SE P ts
 |.len=>SD P ts
 |.max|.min=>true
 |_=>false
def isInt:bH→Bool
 |.const (.int _ _)=>true
 |_=>false
def aco(P:aI)(t:aZ):Bool:=P.underlying t matches some (.int _)
def VF(P:aI)(F:Nat→Bool)(op:Op):Bool:=op.operands.all (Ai F)&&match op with
 |.move _|.assign _|.pick ..|.box ..|.load ..|.store ..|.indexAddr ..|.index ..|.extract ..|.send ..=>true
 |.alloc e=>og P e
 |.build t _=>og P t
 |.buildSlice t _ _=>yR P t
 |.binOp op t _ y _=>aco P t&&(Xz op||((op matches .eql | .neq)&&isInt y))
 |.makeFunc (.func f) _ _=>F f
 |.makeMap _ none=>true
 |.fieldAddr s _ f=>Iu P s f
 |.lookup t _ _ _=>SC P t
 |.mapUpdate t _ _ _=>MU P t
 |.call c=>(match c.callee with|.builtin b=>okB P c.argTypes b|.value _=>true|.invoke ..=>false)
 |_=>false
theorem jY{fr fr':bL}(h:iD F ρ fr.tmps fr'.tmps){x:bH}(hx:Ai F x=true):VR F ρ (fr.eval x) (fr'.eval x):=by
 cases x with
 |tmp t=>exact h.getD sW t
 |const v=>exact zn hx
 |global g=>cases hx
 |func f=>exact .func hx rfl (fun i x y h=>by simp at h) rfl (fun i x y h=>by simp at h)
theorem YQ{fr fr':bL}(h:iD F ρ fr.tmps fr'.tmps){l:Array bH}(hl:l.all (Ai F)=true):iD F ρ (l.map fr.eval) (l.map fr'.eval):=
 iD.map fun x hx=>jY h (jX.1 hl x hx)
theorem MR{fr fr':bL}(h:iD F ρ fr.tmps fr'.tmps):∀ {l:List (Nat × bH)},(l.all fun p=>Ai F p.2)=true→
  PL F ρ (l.map fun(i,x)=>(i,fr.eval x)) (l.map fun(i,x)=>(i,fr'.eval x))
 |[],_=>.nil
 |(i,x)::l,hl=>by
  simp only[List.all_cons,aD] at hl;exact .cons (jY h hl.1) (MR h hl.2)
theorem J7(hF:UM P F)(R:Uw P ρ){fr fr':bL}(h:iD F ρ fr.tmps fr'.tmps){o:Oper}(ho:VF P F o.op=true):bP P F (NR F) ρ (bY fr.eval o) (bY fr'.eval o):=by
 unfold VF at ho;rw[aD] at ho;obtain⟨h1,h2⟩:=ho;unfold bY;obtain⟨dst,op,type,pos,after,guard⟩:=o;dsimp only at h1 h2 ⊢;cases op<;>first|(cases h2;done)|skip
 all_goals simp only[Op.operands,List.all_toArray,List.all_cons,List.all_nil,Bool.and_true,aD] at h1
 case move x=>exact .pure (.value (jY h h1))
 case assign x=>exact .pure (.value (jY h h1))
 case pick c a b=>
  refine bP.bF (C:=fun _=>True) (s:=asBool (fr.eval c)) (s':=asBool (fr'.eval c)) ?_ fun t _=>?_
  ·have hc:=jY h h1.1;revert hc;generalize fr.eval c=v;generalize fr'.eval c=v';intro hc;cases hc<;>first|exact bf|exact cK
  ·cases t
   ·exact bP.pure (NR.value (jY h h1.2.2))
   ·exact bP.pure (NR.value (jY h h1.2.1))
 case alloc e=>exact nJ (MD h2)
 case box e x=>exact nJ (R9 (jY h h1))
 case build t ps=>
  refine gQ (MA h2 ?_);simp only[vC];exact MR h (by simpa [List.all_map,Function.comp_def] using h1)
 case buildSlice t n ps=>
  refine nJ (Ck h2 ?_);simp only[vC];exact MR h (by simpa [List.all_map,Function.comp_def] using h1)
 case load t a=>exact gQ (J4 (jY h h1))
 case store t a v=>exact Bv (Hx (jY h h1.1) (jY h h1.2))
 case binOp op t x y yt=>
  simp only[aD,Bool.or_eq_true] at h2;have hx:=jY h h1.1;have hy:=jY h h1.2
  have ht:∃k,P.underlying t=some (.int k):=by
   have:=h2.1;unfold aco at this;split at this
   ·exact⟨_,‹_›⟩
   ·cases this
  obtain⟨k,ht⟩:=ht;refine nJ ?_;rcases h2.2 with hop|⟨hop,hint⟩
  ·have e:∀a b,eqGuard op t x y a b=eH ():=fun a b=>by cases op<;>first|rfl|cases hop
   rw[e,e];exact MB R ht hop hx hy
  ·have hyi:∃k n,y=.const (.int k n):=by
    unfold isInt at hint;split at hint
    ·exact⟨_,_,rfl⟩
    ·cases hint
   obtain⟨ky,ny,rfl⟩:=hyi;have hy1:fr.eval (.const (.int ky ny))=.int ky ny:=rfl;have hy2:fr'.eval (.const (.int ky ny))=.int ky ny:=rfl;rw[hy1,hy2] at *
   have e:∀a,eqGuard op t x (.const (.int ky ny)) a (.int ky ny)=eH ():=fun a=>by
    have Zb:op=.eql∨op=.neq:=by cases op<;>first|exact .inl rfl|exact .inr rfl|cases hop
    rcases Zb with rfl|rfl<;>cases a<;>rfl
   rw[e,e];show bP P F (VR F) ρ (binOp op t (fr.eval x) (.int ky ny)) (binOp op t (fr'.eval x) (.int ky ny));generalize fr.eval x=v at hx ⊢;generalize fr'.eval x=v' at hx ⊢;have hpl:oY P 1 t=true:=by simp only[oY,ht]
   have heq:=px R 1 Op.maxDepth t hpl v v' _ _ hx (.int (F:=F) (ρ:=ρ) ky ny);have Zb:op=.eql∨op=.neq:=by cases op<;>first|exact .inl rfl|exact .inr rfl|cases hop
   rcases Zb with rfl|rfl
   ·cases hx<;>first
     |exact uR
     |exact heq.bF fun b _=>.pure (.bool _)
   ·cases hx<;>first
     |exact uR
     |exact heq.bF fun b _=>.pure (.bool _)
 case makeFunc fn fs cs=>
  cases fn<;>first|(cases h2;done)|skip
  rename_i f;simp only[Array.all_append,aD] at h1;have e1:=YQ h h1.1;have e2:=YQ h h1.2;exact .pure (NR.value (.func h2 e1.size e1.at_ e2.size e2.at_))
 case makeMap t r=>
  cases r<;>first|(cases h2;done)|skip
  exact nJ Hz
 case fieldAddr s x f=>exact gQ (H6 h2 (jY h h1))
 case indexAddr t x i=>exact gQ (H4 (jY h h1.1) (jY h h1.2))
 case index t x i=>exact gQ (Mz (jY h h1.1) (jY h h1.2))
 case lookup t x i ok=>exact gQ (J3 R h2 (jY h h1.1) (jY h h1.2) ok)
 case mapUpdate t m k v=>exact Bv (Dm R h2 (jY h h1.1) (jY h h1.2.1) (jY h h1.2.2))
 case send ch x=>exact bP.pure NR.send
 case extract x i=>exact gQ (H7 (jY h h1) i)
 case call c=>
  obtain⟨callee,args,ats⟩:=c;simp only[Call.operands,Array.all_append,aD] at h1;have ha:=YQ h h1.2;dsimp only at h2;cases callee<;>first|(cases h2;done)|skip
  case builtin b=>
   cases b<;>first|(cases h2;done)|skip
   ·exact nJ (Ka h2 ha)
   ·exact gQ (R7 h2 ha)
   ·exact gQ (R3 ha)
   ·exact gQ (R1 ha)
  case value f=>
   have hf:=jY h (x:=f) (by simpa using h1.1);unfold resolve;dsimp only;revert hf;generalize fr.eval f=v;generalize fr'.eval f=v';intro hf;cases hf<;>first|exact bf|exact fX (e:=.nilDeref)|skip
   rename_i f fs fs' cs cs' hFf h3 h4 h5 h6;exact FA hF hFf (((iD.mk h3 h4).append ha).append ⟨h5,h6⟩)
end
def OB(P:aI)(F:Nat→Bool)(o:Oper):Bool:=VF P F o.op
def gS(P:aI)(F:Nat→Bool):Code→Bool
 |.skip|.exit _|.label _|.ret=>true
 |.region _ ops _=>ops.all (OB P F)
 |.seq a b=>gS P F a&&gS P F b
 |.cond c a b=>Ai F c&&gS P F a&&gS P F b
 |.block _ c|.loop c=>gS P F c
 |_=>false
def iE(P:aI)(F:Nat→Bool):oO→Bool
 |.code c|.inLoop c=>gS P F c
 |.inBlock _=>true
 |.inRegion ops _=>ops.all (OB P F)
 |_=>false
structure sP(P:aI)(F:Nat→Bool):Prop where
 text:∀f,F f=true→∃fn c,P.funcs[f]?=some fn∧fn.body=some c∧gS P F c=true∧(fn.name == "runtime.NumGoroutine")=false
theorem sP.body{P:aI}{F:Nat→Bool}(h:sP P F):UM P F:=fun f hf=>by
 obtain⟨fn,c,h1,h2,_,h3⟩:=h.text f hf;exact⟨fn,h1,by rw[h2];rfl,h3⟩
def iZ(fn:dR)(tmps:Array aj)(todo:List oO)(mode:FrameMode)(kd:jz):Frame:={ fn,tmps,todo,defers:=[],mode,kind:=kd,roundOf:=none }
abbrev Fr(fn:dR)(tmps:Array aj)(todo:List oO)(mode:FrameMode):Frame:=iZ fn tmps todo mode .normal
inductive FR(P:aI)(F:Nat→Bool)(ρ:Rn)(k:List oO)(kd:jz):bL→bL→Prop
 |run {fn:dR} {tmps bu:Array aj} {todo:List oO}:iD F ρ tmps bu→todo.all (iE P F)=true→FR P F ρ k kd (Fr fn tmps todo .run) (iZ fn bu (todo++k) .run kd)
 |ret {fn:dR} {tmps bu:Array aj} {todo Oh:List oO}:iD F ρ tmps bu→FR P F ρ k kd (Fr fn tmps todo .returning) (iZ fn bu Oh .returning kd)
theorem FR.mono{P:aI}{F:Nat→Bool}{ρ ρ':Rn}{k:List oO}{kd:jz}{fr fr':bL}(h:FR P F ρ k kd fr fr')(hl:Rn.le ρ ρ'):FR P F ρ' k kd fr fr':=by
 cases h with
 |run h1 h2=>exact .run (h1.mono hl) h2
 |ret h1=>exact .ret (h1.mono hl)
theorem FR.defers{P:aI}{F:Nat→Bool}{ρ:Rn}{k:List oO}{kd:jz}{fr fr':bL}(h:FR P F ρ k kd fr fr'):fr.defers=[]:=by cases h<;>rfl
theorem FR.kinds{P:aI}{F:Nat→Bool}{ρ:Rn}{k:List oO}{kd:jz}{fr fr':bL}(h:FR P F ρ k kd fr fr'):fr.kind=.normal∧fr'.kind=kd:=by cases h<;>exact⟨rfl,rfl⟩
inductive SR(P:aI)(F:Nat→Bool)(ρ:Rn)(k:List oO)(kd:jz)(cs:List bL):bL→List bL→bL→List bL→Prop
 |base {fr fr':bL}:FR P F ρ k kd fr fr'→P.inits.idxOf? fr.fn=none→SR P F ρ k kd cs fr [] fr' cs
 |up {fr fr' c c':bL} {r r':List bL}:FR P F ρ [] .normal fr fr'→c.todo≠[]→c.mode=.run→SR P F ρ k kd cs c r c' r'→SR P F ρ k kd cs fr (c::r) fr' (c'::r')
theorem SR.mono{P:aI}{F:Nat→Bool}{ρ ρ':Rn}{k:List oO}{kd:jz}{cs:List bL}{fr fr':bL}{l l':List bL}(h:SR P F ρ k kd cs fr l fr' l')(hl:Rn.le ρ ρ'):SR P F ρ' k kd cs fr l fr' l':=by
 induction h with
 |base h1 h2=>exact .base (h1.mono hl) h2
 |up h1 h2 h3 _ ih=>exact .up (h1.mono hl) h2 h3 ih
theorem SR.defers{P:aI}{F:Nat→Bool}{ρ:Rn}{k:List oO}{kd:jz}{cs:List bL}{fr fr':bL}{l l':List bL}(h:SR P F ρ k kd cs fr l fr' l'):fr.defers=[]∧∀c∈l,c.defers=[]:=by
 induction h with
 |base h1 h2=>exact⟨h1.defers,by simp⟩
 |up h1 h2 h3 _ ih=>
  refine⟨h1.defers,fun c hc=>?_⟩;rcases bR.1 hc with rfl|hc
  ·exact ih.1
  ·exact ih.2 c hc
def NZ(g:aB):Prop:=g.dying≠none∨g.status≠.running∨∃chain,g.frame.mode=.panicking chain∧g.frame.defers=[]∧∀c∈g.callers,c.defers=[]
section
variable{P:aI}{F:Nat→Bool}{G':Nat}{B:Nat→Prop}{ρ:Rn}{k:List oO}{kd:jz}{cs:List bL}{lw w:ar}{main:Bool}
theorem raise_mode(fr:bL)(c:List PanicEntry):∃ch,(fr.raise c).mode=.panicking ch∧(fr.raise c).defers=fr.defers:=by
 unfold Frame.raise;cases fr.mode<;>exact⟨_,rfl,rfl⟩
theorem PE{g:aB}(h:NZ g)(hd:g.dying=none)(hr:g.status=.running):(∃o w1 es,eP P true g lw=.ended o w1 es)∨∃g1 w1 es,eP P true g lw=.go g1 w1 es∧NZ g1:=by
 rcases h with h|h|⟨chain,h1,h2,h3⟩
 ·exact absurd hd h
 ·exact absurd hr h
 obtain⟨fr,cs,st,dy,off⟩:=g;obtain⟨fn,tmps,todo,defers,mode,kind,roundOf⟩:=fr;dsimp only at hd hr h1 h2 h3;subst hd;subst h1;subst h2;have e:eP P true ⟨⟨fn,tmps,todo,[],.panicking chain,kind,roundOf⟩,cs,st,none,off⟩ lw=lI P true ⟨fn,tmps,todo,[],.panicking chain,kind,roundOf⟩ cs none lw:=by unfold eP;rfl
 rw[e];unfold lI;dsimp only;split
 ·exact .inl ⟨_,_,_,rfl⟩
 ·cases cs with
  |cons c r=>
   obtain⟨ch,e1,e2⟩:=raise_mode c chain;exact .inr ⟨_,_,_,rfl,.inr (.inr ⟨ch,e1,e2.trans (h3 c (by simp)),fun x hx=>h3 x (by simp[hx])⟩)⟩
  |nil=>
   dsimp only;split
   ·exact .inr ⟨_,_,_,rfl,.inr (.inl (by simp))⟩
   ·split
    ·exact .inr ⟨_,_,_,rfl,.inl (by simp)⟩
    ·exact .inl ⟨_,_,_,rfl⟩
    ·exact .inl ⟨_,_,_,rfl⟩
def Hm(P:aI)(F:Nat→Bool)(G':Nat)(B:Nat→Prop)(ρ:Rn)(k:List oO)(kd:jz)(cs:List bL)(lw w:ar)(s s':GStep):Prop:=
 (∃o jH es,s=.ended o jH es)∨(∃g1 jH es,s=.go g1 jH es∧NZ g1)∨
 (∃g1 ch v jH es,s=.comm g1 #[{ chan:=ch,send:=some v,zero:=.tuple #[] }] true .send jH es∧∀(b:Nat) (o:Obj),jH.heap[b]?=some o→o.isChan=false)∨
 ∃FU l1 jH es wA VU w1 evs ρ1,s=.go (G FU l1) jH es∧s'=.go (G wA VU) w1 evs∧SR P F ρ1 k kd cs FU l1 wA VU∧mr F G' B ρ lw w ρ1 jH w1 evs
theorem fW(hw:WR F G' B ρ lw w){FU wA:bL}{l1 VU:List bL}(h:SR P F ρ k kd cs FU l1 wA VU){s s':GStep}(e:s=.go (G FU l1) lw #[])(e':s'=.go (G wA VU) w #[]):Hm P F G' B ρ k kd cs lw w s s':=
 .inr (.inr (.inr ⟨_,_,_,_,_,_,_,_,ρ,e,e',h,.refl hw⟩))
theorem mr.seen{ρ':Rn}{ep w':ar}{es:Array fQ}(h:mr F G' B ρ lw w ρ' ep w' es)(fn:dR):mr F G' B ρ lw w ρ' ep w' (seen P fn es++#[]):=
 h.more fun e he=>h.evs e (mem_seen (by simpa using he))
theorem SR.set{fr fr' FU wA:bL}{l l':List bL}(h:SR P F ρ k kd cs fr l fr' l')(hfn:FU.fn=fr.fn)(h0:l=[]→FR P F ρ k kd fr fr'→FR P F ρ k kd FU wA)(h1:l≠[]→FR P F ρ [] .normal fr fr'→FR P F ρ [] .normal FU wA):SR P F ρ k kd cs FU l wA l':=by
 cases h with
 |base h h'=>exact .base (h0 rfl h) (hfn▸h')
 |up h a b r=>exact .up (h1 (by simp) h) a b r
theorem lu{x:oO}{t:List oO}(h:(x::t).all (iE P F)=true):iE P F x=true∧t.all (iE P F)=true:=by simpa using h
theorem iv{x:oO}{t:List oO}(h:iE P F x=true)(h':t.all (iE P F)=true):(x::t).all (iE P F)=true:=by simp[h];simpa using h'
theorem xP{id:Nat}{k:List oO}:∀ {t t':List oO},exitTo id t=some t'→exitTo id (t++k)=some (t'++k)
 |[],t',h=>by cases h
 |x::t,t',h=>by
  cases x<;>simp only[ik,exitTo] at h ⊢<;>first|exact xP h|skip
  split at h
  ·rename_i hh;rw[if_pos hh];cases h;rfl
  ·rename_i hh;rw[if_neg hh];exact xP h
theorem xN{id:Nat}:∀ {t t':List oO},t.all (iE P F)=true→exitTo id t=some t'→t'.all (iE P F)=true
 |[],t',ht,h=>by cases h
 |x::t,t',ht,h=>by
  have Y4:=(lu ht).2;cases x<;>simp only[exitTo] at h<;>first|exact xN Y4 h|skip
  split at h
  ·cases h;exact Y4
  ·exact xN Y4 h
theorem C2{fn:dR}{tmps bu:Array aj}{ops:Array Oper}{i:Nat}{rest:List Nat}{t k:List oO}(h:iD F ρ tmps bu)(ht:(Item.inRegion ops (i::rest)::t).all (iE P F)=true){v v':aj}(hv:VR F ρ v v') :
  FR P F ρ k kd ((Fr fn tmps (.inRegion ops (i::rest)::t) .run).finish v) ((iZ fn bu (.inRegion ops (i::rest)::t++k) .run kd).finish v'):=by
 unfold Frame.finish Fr iZ;simp only[ik];have Cn:(Item.inRegion ops rest::t).all (iE P F)=true:=iv (lu ht).1 (lu ht).2;cases(ops[i]?).bind (·.dst) with
 |none=>exact .run (todo:=.inRegion ops rest::t) h Cn
 |some d=>exact .run (todo:=.inRegion ops rest::t) (h.set hv d) Cn
theorem AH(fr:bL)(v:aj):(fr.finish v).fn=fr.fn:=by
 unfold Frame.finish;split<;>rfl
end
section
variable{P:aI}{F:Nat→Bool}{B:Nat→Prop}{ρ:Rn}{k:List oO}{kd:jz}{cs:List bL}{lw w:ar}{main:Bool}
theorem WR.rok(h:WR F P.globals.size B ρ lw w):Uw P ρ:=⟨h.inj,h.low⟩
theorem TS(hF:sP P F){f:dR}(hf:F f=true){l m:Array aj}(h:iD F ρ l m):FR P F ρ [] .normal (eh P f l .normal) (eh P f m .normal):=by
 obtain⟨fn,c,h1,h2,h3,_⟩:=hF.text f hf;unfold eh;simp only[h1,dI,Option.getD_some,gg,h2];have:=FR.run (P:=P) (F:=F) (ρ:=ρ) (k:=[]) (kd:=.normal) (fn:=f) (todo:=[.code c]) (h.append (iD.replicate sW (fn.ntmps-l.size))) (by simpa [iE] using h3);rw[h.size] at this;rw[h.size];exact this
theorem opR(hF:sP P F)(hw:WR F P.globals.size B ρ lw w)(ht:vB lw w)(hG:P.globals.size≤lw.heap.size)(X6:P.globals.size≤w.heap.size)
  {fn:dR} {tmps bu:Array aj} {ops:Array Oper} {i:Nat} {rest:List Nat} {t t':List oO} {l l':List bL} (hto:(Item.inRegion ops (i::rest)::t).all (iE P F)=true)
  (hT:t'=t++(if l=[] then k else[])) {kk:jz} (hK:kk=if l=[] then kd else .normal) (hE:kd≠.early)
  (h:SR P F ρ k kd cs (Fr fn tmps (.inRegion ops (i::rest)::t) .run) l (iZ fn bu (.inRegion ops (i::rest)::t') .run kk) l') (ha:iD F ρ tmps bu) {o:Oper} (ho:ops[i]?=some o) :
  Hm P F P.globals.size B ρ k kd cs lw w (dZ P true (Fr fn tmps (.inRegion ops (i::rest)::t) .run) l none (bY (Fr fn tmps (.inRegion ops (i::rest)::t) .run).eval o) lw)
   (dZ P true (iZ fn bu (.inRegion ops (i::rest)::t') .run kk) l' none (bY (iZ fn bu (.inRegion ops (i::rest)::t') .run kk).eval o) w):=by
 have cN:VF P F o.op=true:=by
  have:=(lu hto).1;exact jX.1 this o (Array.mem_of_getElem? ho)
 have hs:=J7 hF.body hw.rok (fr:=Fr fn tmps (.inRegion ops (i::rest)::t) .run) (fr':=iZ fn bu (.inRegion ops (i::rest)::t') .run kk) ha cN
 have pE:∀ {ρ':Rn} {v v':aj},Rn.le ρ ρ'→VR F ρ' v v'→SR P F ρ' k kd cs ((Fr fn tmps (.inRegion ops (i::rest)::t) .run).finish v) l ((iZ fn bu (.inRegion ops (i::rest)::t') .run kk).finish v') l':=by
  intro ρ' v v' hle hv;refine(h.mono hle).set (AH _ _) (fun hl _=>?_) fun hl _=>?_
  ·rw[if_pos hl] at hT hK;subst hT;subst hK;exact C2 (k:=k) (ha.mono hle) hto hv
  ·rw[if_neg hl] at hT hK;subst hT;subst hK;exact C2 (k:=[]) (ha.mono hle) hto hv
 rcases hs.runT hw ht hG X6 #[] #[] with⟨a,jH,le,b,w1,evs,ρ1,h1,h2,h3,h4⟩|⟨e,jH,le,h1,h2⟩
 ·simp only[eO] at h2
  have Wj:(kk == .early)=false:=by
   rw[hK];split
   ·exact beq_eq_false_iff_ne.2 hE
   ·rfl
  unfold dZ;simp only[if_true,h1,h2];simp only[iZ,Wj,bw,if_false];cases h3 with
  |value hv=>
   refine .inr (.inr (.inr ⟨_,_,_,_,_,_,_,_,ρ1,rfl,rfl,pE h4.le hv,?_⟩));exact h4.seen fn
  |skip=>
   refine .inr (.inr (.inr ⟨_,_,_,_,_,_,_,_,ρ1,rfl,rfl,pE h4.le sW,?_⟩));exact h4.seen fn
  |enter hf ac9=>
   refine .inr (.inr (.inr ⟨_,_,_,_,_,_,_,_,ρ1,rfl,rfl,.up (TS hF hf ac9) (by simp[Fr]) rfl (h.mono h4.le),?_⟩));exact h4.seen fn
  |send=>exact .inr (.inr (.inl ⟨_,_,_,_,_,rfl,h4.wr.Iy⟩))
 ·unfold dZ;simp only[if_true,h1];have hd:=h.defers;cases e with
  |panic v=>
   obtain⟨ch,e1,e2⟩:=raise_mode (Fr fn tmps (.inRegion ops (i::rest)::t) .run) [{ v,recovered:=false }];exact .inr (.inl ⟨_,_,_,rfl,.inr (.inr ⟨ch,e1,e2.trans hd.1,hd.2⟩)⟩)
  |stuck s=>exact .inl ⟨_,_,_,rfl⟩
  |unsupported u=>
   cases u<;>first|exact absurd h2 id|exact .inl ⟨_,_,_,rfl⟩
  |_=>exact absurd h2 id
theorem SR.top{fr fr':bL}{l l':List bL}(h:SR P F ρ k kd cs fr l fr' l'):FR P F ρ (if l=[] then k else[]) (if l=[] then kd else .normal) fr fr':=by
 cases h with
 |base h _=>simpa using h
 |up h _ _ _=>simpa using h
theorem SR.set'{fr fr' FU wA:bL}{l l':List bL}(h:SR P F ρ k kd cs fr l fr' l')(hfn:FU.fn=fr.fn)(h1:FR P F ρ (if l=[] then k else[]) (if l=[] then kd else .normal) FU wA):SR P F ρ k kd cs FU l wA l':=
 h.set hfn (fun hl _=>by simpa [hl] using h1) fun hl _=>by simpa [hl] using h1
theorem RJ{tmps bu:Array aj}(ha:iD F ρ tmps bu)(ops:Array Oper):yielded ops bu=yielded ops tmps:=by
 funext j
 unfold yielded;cases(ops[j]?).bind (·.dst) with
 |none=>rfl
 |some d=>
  simp only[gg];cases hx:tmps[d]? with
  |none=>rw[ha.none hx]
  |some x=>
   obtain⟨y,hy,hv⟩:=ha.get hx;rw[hy];cases hv<;>rfl
theorem adx(hF:sP P F)(hw:WR F P.globals.size B ρ lw w)(ht:vB lw w)(hG:P.globals.size≤lw.heap.size)(X6:P.globals.size≤w.heap.size)
  {fn:dR} {tmps bu:Array aj} {todo:List oO} {l l':List bL} (h:SR P F ρ k kd cs (Fr fn tmps todo .run) l (iZ fn bu (todo++if l=[] then k else[]) .run (if l=[] then kd else .normal)) l') (hE:kd≠.early)
  (ha:iD F ρ tmps bu) (cN:todo.all (iE P F)=true) (hk:l=[]→todo=[]→k=[]) :
  Hm P F P.globals.size B ρ k kd cs lw w (bX P true true (Fr fn tmps todo .run) l none lw) (bX P main true (iZ fn bu (todo++if l=[] then k else[]) .run (if l=[] then kd else .normal)) l' none w):=by
 have qH:todo=[]→(if l=[] then k else[])=[]:=fun e=>by
  split
  ·rename_i hl;exact hk hl e
  ·rfl
 generalize sS:(if l=[] then k else[])=kk at h qH ⊢;generalize Cr:(if l=[] then kd else CallKind.normal)=JC at h ⊢;have Ci:∀t:List oO,t.all (iE P F)=true→SR P F ρ k kd cs (Fr fn tmps t .run) l (iZ fn bu (t++kk) .run JC) l':=fun t hto=>h.set' rfl (by rw[sS,Cr];exact .run ha hto);have abA:∀t t':List oO,SR P F ρ k kd cs (Fr fn tmps t .returning) l (iZ fn bu t' .returning JC) l':=fun t t'=>h.set' rfl (by rw[Cr];exact .ret ha);cases todo with
 |nil=>
  rw[qH rfl] at h ⊢;exact fW hw (abA [] []) rfl rfl
 |cons x t=>
  obtain⟨hx,IZ⟩:=lu cN;cases x with
  |inBlock id=>exact fW hw (Ci t IZ) rfl rfl
  |inLoop c=>exact fW hw (Ci (.code c::.inLoop c::t) (iv hx (iv hx IZ))) rfl rfl
  |inRegion ops todo=>
   cases todo with
   |nil=>exact fW hw (Ci t IZ) rfl rfl
   |cons i rest=>
    have hy:=RJ ha ops
    by_cases XB:((ops[i]?).map (Region.wanted · (yielded ops tmps))).getD false=true
    ·have e1:bX P true true (Fr fn tmps (.inRegion ops (i::rest)::t) .run) l none lw=eM P true (Fr fn tmps (.inRegion ops (i::rest)::t) .run) l none lw:=if_pos XB
     have e2:bX P main true (iZ fn bu (.inRegion ops (i::rest)::t++kk) .run JC) l' none w=eM P true (iZ fn bu (.inRegion ops (i::rest)::(t++kk)) .run JC) l' none w:=by
      rw[←hy] at XB;exact if_pos XB
     rw[e1,e2];cases ho:ops[i]? with
     |none=>rw[ho] at XB;cases XB
     |some o=>
      have e3:eM P true (Fr fn tmps (.inRegion ops (i::rest)::t) .run) l none lw=dZ P true (Fr fn tmps (.inRegion ops (i::rest)::t) .run) l none (bY (Fr fn tmps (.inRegion ops (i::rest)::t) .run).eval o) lw:=by
       unfold eM;have:(Fr fn tmps (.inRegion ops (i::rest)::t) .run).oper?=some o:=ho;rw[this];rfl
      have e4:eM P true (iZ fn bu (.inRegion ops (i::rest)::(t++kk)) .run JC) l' none w=dZ P true (iZ fn bu (.inRegion ops (i::rest)::(t++kk)) .run JC) l' none (bY (iZ fn bu (.inRegion ops (i::rest)::(t++kk)) .run JC).eval o) w:=by
       unfold eM;have:(iZ fn bu (.inRegion ops (i::rest)::(t++kk)) .run JC).oper?=some o:=ho;rw[this];rfl
      rw[e3,e4];exact opR hF hw ht hG X6 cN (by rw[sS];rfl) Cr.symm hE h ha ho
    ·have e1:bX P true true (Fr fn tmps (.inRegion ops (i::rest)::t) .run) l none lw=.go (G ((Fr fn tmps (.inRegion ops (i::rest)::t) .run).finish af) l) lw:=if_neg XB
     have e2:bX P main true (iZ fn bu (.inRegion ops (i::rest)::t++kk) .run JC) l' none w=.go (G ((iZ fn bu (.inRegion ops (i::rest)::t++kk) .run JC).finish af) l') w:=by
      rw[←hy] at XB;exact if_neg XB
     exact fW hw (h.set' (AH _ _) (by rw[sS,Cr];exact C2 ha cN sW)) e1 e2
  |code c=>
   cases c with
   |ret=>exact fW hw (abA _ _) rfl rfl
   |skip=>exact fW hw (Ci t IZ) rfl rfl
   |label n=>exact fW hw (Ci t IZ) rfl rfl
   |seq a b=>
    have hx':gS P F a=true∧gS P F b=true:=by simpa [iE,gS] using hx
    exact fW hw (Ci (.code a::.code b::t) (iv hx'.1 (iv hx'.2 IZ))) rfl rfl
   |cond c a b=>
    have hx':(Ai F c=true∧gS P F a=true)∧gS P F b=true:=by simpa [iE,gS] using hx
    have hv:=jY (fr:=Fr fn tmps (.code (.cond c a b)::t) .run) (fr':=iZ fn bu (.code (.cond c a b)::t++kk) .run JC) ha hx'.1.1
    have e1:bX P true true (Fr fn tmps (.code (.cond c a b)::t) .run) l none lw=(match (Fr fn tmps (.code (.cond c a b)::t) .run).eval c with
     |.bool x=>.go (G (Fr fn tmps (.code (if x then a else b)::t) .run) l) lw
     |_=>.ended (.stuck "cond: bool expected" ((Fr fn tmps (.code (.cond c a b)::t) .run).pos P)) lw):=rfl
    have e2:bX P main true (iZ fn bu (.code (.cond c a b)::t++kk) .run JC) l' none w=(match (iZ fn bu (.code (.cond c a b)::t++kk) .run JC).eval c with
     |.bool x=>.go (G (iZ fn bu (.code (if x then a else b)::t++kk) .run JC) l') w
     |_=>.ended (.stuck "cond: bool expected" ((iZ fn bu (.code (.cond c a b)::t++kk) .run JC).pos P)) w):=rfl
    rw[e1,e2];generalize (Fr fn tmps (.code (.cond c a b)::t) .run).eval c=v at hv ⊢;generalize (iZ fn bu (.code (.cond c a b)::t++kk) .run JC).eval c=v' at hv ⊢;cases hv<;>first|exact .inl ⟨_,_,_,rfl⟩|skip
    rename_i x;refine fW hw (Ci (.code (if x then a else b)::t) (iv ?_ IZ)) rfl rfl;cases x
    ·exact hx'.2
    ·exact hx'.1.2
   |block id c=>exact fW hw (Ci (.code c::.inBlock id::t) (iv hx (iv rfl IZ))) rfl rfl
   |loop c=>exact fW hw (Ci (.code c::.inLoop c::t) (iv hx (iv hx IZ))) rfl rfl
   |exit id=>
    cases he:exitTo id t with
    |none=>
     refine .inl ⟨.stuck "exit, goto: no such block or label" ((Fr fn tmps (.code (.exit id)::t) .run).pos P),lw,#[],?_⟩;show(exitTo id t).elim _ _=_;rw[he];rfl
    |some t'=>
     refine fW hw (Ci t' (xN IZ he)) ?_ ?_
     ·show(exitTo id t).elim _ _=_;rw[he];rfl
     ·show(exitTo id (t++kk)).elim _ _=_;rw[xP he];rfl
   |region id ops draw=>
    cases draw with
    |false=>exact fW hw (Ci (.inRegion ops (List.range ops.size)::t) (iv hx IZ)) rfl rfl
    |true=>
     have h0:lw.tape lw.drawn=w.tape w.drawn:=ht 0;refine .inr (.inr (.inr ⟨_,_,_,_,_,_,_,_,ρ,rfl,?_,Ci (.inRegion ops (Region.schedule (P.follows .mixedOrders) ops (lw.tape lw.drawn (.order fn id)))::t) (iv hx IZ),Gh hw⟩));rw[h0];rfl
   |_=>cases hx
  |_=>cases hx
theorem PS{ι:Type}{f f':ι→ic aj}(hf:∀a,bP P F (At ρ (VR F ρ)) ρ (f a) (f' a))(l:Array ι):bP P F (At ρ (iD F ρ)) ρ (l.mapM f) (l.mapM f'):=by
 rw[oT,oT]
 have:∀l:List ι,bP P F (At ρ (Rt F ρ)) ρ (l.mapM f) (l.mapM f'):=by
  intro l;rw[←List.mapM'_eq_mapM,←List.mapM'_eq_mapM]
  induction l with
  |nil=>exact .dt .nil
  |cons a l ih=>exact(hf a).dG fun _ _ h1=>ih.dG fun _ _ h2=>.dt (.cons h1 h2)
 exact(this l.toList).dG fun _ _ h=>.dt h.row
theorem J9{v v':aj}(h:VR F ρ v v'):bP P F (At ρ (AR ρ)) ρ (asAddr v) (asAddr v'):=by
 cases h<;>first|exact bf|exact fX (e:=.nilDeref)|exact .dt ‹_›
theorem Hy{tmps bu:Array aj}(ha:iD F ρ tmps bu)(fn:Func):bP P F (At ρ (VR F ρ)) ρ (results fn tmps) (results fn bu):=by
 unfold results;refine(PS (fun r=>?_) fn.results).dG fun vs vs' XD=>?_
 ·cases r with
  |tmp t=>exact .dt (ha.getD sW t)
  |cell a t=>exact(J9 (ha.getD sW a)).dG fun x y h=>yC h
 ·have hs:=XD.size
  by_cases h1:vs.size=1
  ·have h2:vs'.size=1:=by omega
   simp only[h1,h2,dif_pos];exact .dt (XD.at_ 0 _ _ (aM (by omega)) (aM (by omega)))
  ·have h2:¬vs'.size=1:=by omega
   simp only[h1,h2,dif_neg,not_false_eq_true];exact .dt XD.tuple
theorem Ow(h0:WR F P.globals.size B ρ lw w){fr fr':bL}{l l':List bL}(h:SR P F ρ k kd cs fr l fr' l'){v v':aj}{jH w1:ar}{evs:Array fQ}{ρ1:Rn}
  (hv:VR F ρ1 v v') (hw:mr F P.globals.size B ρ lw w ρ1 jH w1 evs) (es:Array fQ) :
  Hm P F P.globals.size B ρ k kd cs lw w (Bf es (tT P true fr l none v jH)) (Bf evs (tT P main fr' l' none v' w1)):=by
 cases h with
 |base h hi=>
  refine .inl ?_;unfold tT;dsimp only;rw[h.kinds.1,hi];exact⟨_,_,_,rfl⟩
 |@up _ _ c c' r r' h acv acL hr=>
  unfold tT;dsimp only;rw[h.kinds.1,h.kinds.2];have hr':=hr.mono hw.le;have M8:=hr'.top;refine .inr (.inr (.inr ⟨_,_,_,_,_,_,_,_,ρ1,rfl,rfl,hr'.set' (AH _ _) ?_,hw.more fun e he=>hw.evs e (by simpa using he)⟩));refine ?_;generalize (if r=[] then k else[])=kk at M8 ⊢;generalize (if r=[] then kd else CallKind.normal)=JC at M8 ⊢;cases M8 with
  |ret _=>cases acL
  |@run fn tmps bu todo ha cN=>
   cases todo with
   |nil=>exact absurd rfl acv
   |cons x t=>
    cases x with
    |inRegion ops is=>
     cases is with
     |nil=>exact .run (todo:=.inRegion ops []::t) ha cN
     |cons i rest=>exact C2 ha cN hv
    |code c=>exact .run (todo:=.code c::t) ha cN
    |inBlock id=>exact .run (todo:=.inBlock id::t) ha cN
    |inLoop c=>exact .run (todo:=.inLoop c::t) ha cN
    |_=>exact absurd (lu cN).1 (by simp[iE])
theorem Vk(hw:WR F P.globals.size B ρ lw w)(ht:vB lw w)(hG:P.globals.size≤lw.heap.size)(X6:P.globals.size≤w.heap.size)
  {fn:dR} {tmps bu:Array aj} {todo Oh:List oO} {l l':List bL} {kk:jz} (h:SR P F ρ k kd cs (Fr fn tmps todo .returning) l (iZ fn bu Oh .returning kk) l') (ha:iD F ρ tmps bu) :
  Hm P F P.globals.size B ρ k kd cs lw w (lI P true (Fr fn tmps todo .returning) l none lw) (lI P main (iZ fn bu Oh .returning kk) l' none w):=by
 unfold lI;dsimp only[Fr,iZ];cases hf:P.funcs[fn]? with
 |none=>
  have:=Ow (main:=main) hw h (ha.getD sW 0) (.refl hw) #[];have e:∀s:GStep,Bf #[] s=s:=fun s=>by cases s<;>simp[Bf]
  rw[e,e] at this;exact this
 |some f=>
  rcases(Hy (P:=P) ha f).runT hw ht hG X6 #[] #[] with⟨a,jH,le,b,w1,evs,ρ1,h1,h2,h3,h4⟩|⟨e,jH,le,h1,h2⟩
  ·simp only[eO] at h2;simp only[h1,h2];obtain⟨rfl,hv⟩:=h3;exact Ow hw h hv (h4.more fun e he=>h4.evs e (mem_seen he)) _
  ·simp only[h1];cases e<;>exact .inl ⟨_,_,_,rfl⟩
theorem abv(hF:sP P F)(hw:WR F P.globals.size B ρ lw w)(ht:vB lw w)(hG:P.globals.size≤lw.heap.size)(X6:P.globals.size≤w.heap.size)
  {fr fr':bL} {l l':List bL} (h:SR P F ρ k kd cs fr l fr' l') (hk:l=[]→fr.mode=.run→fr.todo=[]→k=[]) (hE:kd≠.early) :
  Hm P F P.globals.size B ρ k kd cs lw w (eP P true (G fr l) lw) (eP P main (G fr' l') w):=by
 have M8:=h.top;generalize sS:(if l=[] then k else[])=kk at M8;generalize Cr:(if l=[] then kd else CallKind.normal)=JC at M8;cases M8 with
 |run ha cN=>
  subst sS;subst Cr;exact adx (main:=main) hF hw ht hG X6 h hE ha cN fun h1 h2=>hk h1 rfl h2
 |ret ha=>exact Vk (main:=main) hw ht hG X6 h ha
end
structure gY(K:Nat→Prop)(w w1:ar):Prop where
 grow:w.heap.size≤w1.heap.size
 keep:∀c,K c→w1.heap[c]?=w.heap[c]?
theorem gY.refl(K:Nat→Prop)(w:ar):gY K w w:=⟨ax _,fun _ _=>rfl⟩
theorem gY.trans{K:Nat→Prop}{a b c:ar}(h:gY K a b)(h':gY K b c):gY K a c:=⟨aN h.grow h'.grow,fun x hx=>(h'.keep x hx).trans (h.keep x hx)⟩
def own(O:Nat→Prop)(w w':ar):Nat→Prop:=fun c=>O c∨(w.heap.size≤c∧c<w'.heap.size)
structure JA(S O:Nat→Prop)(w w':ar)(es:Array fQ):Prop where
 grow:w.heap.size≤w'.heap.size
 keep:∀c,c<w.heap.size→¬O c→w'.heap[c]?=w.heap[c]?
 tape:w'.tape=w.tape
 drawn:w.drawn≤w'.drawn
 os:w'.os=w.os
 out:w'.output=w.output
 evs:∀e∈es,N8 (fun c=>S c∨own O w w' c) (own O w w') e
inductive Walk(P:aI)(main:Bool)(S:Nat→Prop)(Stop:(Nat→Prop)→aB→ar→Prop):(Nat→Prop)→aB→ar→Prop
 |stop {O:Nat→Prop} {g:aB} {w:ar}:(∀w1,gY (fun c=>S c∨O c) w w1→Stop O g w1)→Walk P main S Stop O g w
 |step {O:Nat→Prop} {g:aB} {w:ar}:g.status=.running→g.dying=none→
   (∀w1,gY (fun c=>S c∨O c) w w1→∃g2 w2 es,eP P main g w1=.go g2 w2 es∧JA S O w1 w2 es∧g2.status=.running∧g2.dying=none)→
   (∀w1,gY (fun c=>S c∨O c) w w1→∀g2 w2 es,eP P main g w1=.go g2 w2 es→Walk P main S Stop (own O w1 w2) g2 w2)→Walk P main S Stop O g w
section
variable{P:aI}{main:Bool}{S:Nat→Prop}{Stop Yi:(Nat→Prop)→aB→ar→Prop}{O:Nat→Prop}{g:aB}{w:ar}
theorem Walk.rely(h:Walk P main S Stop O g w){w1:ar}(hr:gY (fun c=>S c∨O c) w w1):Walk P main S Stop O g w1:=by
 cases h with
 |stop h=>exact .stop fun w2 h2=>h w2 (hr.trans h2)
 |step a b c d=>exact .step a b (fun w2 h2=>c w2 (hr.trans h2)) fun w2 h2=>d w2 (hr.trans h2)
theorem Walk.bind(h:Walk P main S Stop O g w)(k:∀O g w,Stop O g w→Walk P main S Yi O g w):Walk P main S Yi O g w:=by
 induction h with
 |@stop O g w h=>exact k _ _ _ (h w (.refl _ _))
 |step a b c d ih=>exact .step a b c ih
theorem Walk.mk{r:g.status=.running}{d:g.dying=none}(h:∀w1,gY (fun c=>S c∨O c) w w1→∃g2 w2 es,eP P main g w1=.go g2 w2 es∧JA S O w1 w2 es∧g2.status=.running∧g2.dying=none∧Walk P main S Stop (own O w1 w2) g2 w2):Walk P main S Stop O g w:=by
 refine .step r d (fun w1 h1=>?_) fun w1 h1 g2 w2 es e=>?_
 ·obtain⟨g2,w2,es,e,hg,hr,hd,_⟩:=h w1 h1;exact⟨g2,w2,es,e,hg,hr,hd⟩
 ·obtain⟨g3,w3,es3,e3,_,_,_,hw⟩:=h w1 h1;rw[e] at e3;injection e3 with e4 e5 e6
  rw[e4,e5];exact hw
end
section
variable{P:aI}{F:Nat→Bool}{B:Nat→Prop}{ρ:Rn}{k:List oO}{kd:jz}{cs:List bL}{lw w:ar}{main:Bool}{Stop:aB→ar→Prop}
theorem yX{g g1 g':aB}{jH ep:ar}{es:Array fQ}(h:rr P g lw g' ep)(e:eP P true g lw=.go g1 jH es):g'=g1∧ep=jH:=by
 obtain⟨hr,_,⟨ops,hs⟩,_⟩:=h;rw[stepT_solo hr,nj] at hs;have Nr:(#[g]:Array aB)[0]?=some g:=rfl;have e1:=runT_crowd_go (P:=P) (gs:=#[g]) (w:=lw) (sl:=none) (i:=0) Nr e;rw[e1] at hs;injection hs with hs1 _
 injection hs1 with hs3
 have:(#[g].map (woken P g g1 jH)).setIfInBounds 0 g1 = #[g1]:=by simp
 rw[this,←nj] at hs3;obtain⟨h1,h2⟩:=ov hs3;exact⟨h1.symm,h2.symm⟩
theorem uX{g g':aB}{jH ep:ar}{o:Outcome}{es:Array fQ}(h:rr P g lw g' ep)(e:eP P true g lw=.ended o jH es):False:=by
 obtain⟨hr,_,⟨ops,hs⟩,_⟩:=h;rw[stepT_solo hr,nj] at hs;have Nr:(#[g]:Array aB)[0]?=some g:=rfl;have e1:=runT_many_ended (P:=P) (gs:=#[g]) (w:=lw) (sl:=none) (i:=0) Nr e;rw[e1] at hs;injection hs with hs1 _
 cases hs1
theorem MZ{g g1 g':aB}{jH ep:ar}{ch v:aj}{es:Array fQ}(h:rr P g lw g' ep)(e:eP P true g lw=.comm g1 #[{ chan:=ch,send:=some v,zero:=.tuple #[] }] true .send jH es)
  (hn:∀(b:Nat) (o:Obj),jH.heap[b]?=some o→o.isChan=false):False:=by
 obtain⟨hr,_,⟨ops,hs⟩,hr',_⟩:=h;rw[stepT_solo hr,nj] at hs;have Nr:(#[g]:Array aB)[0]?=some g:=rfl;have e1:=runT_crowd_comm (P:=P) (gs:=#[g]) (w:=lw) (sl:=none) (i:=0) Nr e;rw[e1] at hs;injection hs with hs1 _
 have kI:∀c:mI,(c.chan=.chan none∨(match c.chan with
   |.chan none=>false
   |.chan (some r)=>!(jH.heap[r]? matches some (.chan ..))
   |_=>true)=true):=by
  intro c;cases hc:c.chan with
  |chan r=>
   cases r with
   |none=>exact .inl rfl
   |some r=>
    right;dsimp only;cases hh:jH.heap[r]? with
    |none=>rfl
    |some o=>
     have:=hn r o hh;cases o<;>first|rfl|cases this
  |_=>exact .inr rfl
 unfold communicate at hs1;rcases kI { chan:=ch,send:=some v,zero:=.tuple #[] } with hb|hb
 ·dsimp only at hb;subst hb;have hw:∀gs:Array aB,ways jH gs { chan:=.chan none,send:=some v,zero:=.tuple #[] }=[]:=fun gs=>rfl;simp[hw,waitingAt,timerAhead] at hs1;have h1:=congrArg Machine.gs hs1;have h2:(#[g].setIfInBounds 0 { g1 with status:=.blocked,offers:=some (#[{ chan:=.chan none,send:=some v,zero:=.tuple #[] }],.send) }:Array aB) = #[g']:=by simpa [solo,crowd] using h1
  have h3:g'={ g1 with status:=.blocked,offers:=some (#[{ chan:=.chan none,send:=some v,zero:=.tuple #[] }],.send) }:=by
   have:=congrArg (fun a:Array aB=>a[0]?) h2;simpa using this.symm
  rw[h3] at hr';cases hr'
 ·dsimp only at hb;simp at hs1;rw[if_pos] at hs1
  ·cases hs1
  ·exact hb
theorem RS(hS:∀g W,Stop g W→¬NZ g){g:aB}{W:ar}(h:Bar P Stop g W):¬NZ g:=by
 induction h with
 |stop h=>exact hS _ _ h
 |@step g W live down ih=>
  intro hs;obtain⟨g',W',hl⟩:=live W.tape fun _ _=>rfl;rcases PE (P:=P) (lw:=dx W W.tape W.drawn) hs hl.2.1 hl.1 with⟨o,w1,es,e⟩|⟨g1,w1,es,e,hs1⟩
  ·exact uX hl e
  ·obtain⟨rfl,rfl⟩:=yX hl e;exact ih W.tape (fun _ _=>rfl) _ _ hl hs1
theorem Rq{fn:dR}{tmps:Array aj}{todo:List oO}(hi:P.inits.idxOf? fn=none):∃o w1 es,eP P true (G (Fr fn tmps todo .returning) []) lw=.ended o w1 es:=by
 have e:eP P true (G (Fr fn tmps todo .returning) []) lw=lI P true (Fr fn tmps todo .returning) [] none lw:=rfl;rw[e]
 have hd:∀v w,tT P true (Fr fn tmps todo .returning) [] none v w=.ended (.done v) w:=by
  intro v w;unfold tT;simp only[Fr,iZ,hi];rfl
 unfold lI;dsimp only[Fr,iZ];cases P.funcs[fn]? with
 |none=>exact⟨_,_,_,hd _ _⟩
 |some f=>
  dsimp only;generalize (results f tmps).runT P lw #[]=r;obtain⟨r,es⟩:=r;cases r with
  |ok v w=>
   have:=hd v w;simp only[Fr,iZ] at this;simp only[this];exact⟨_,_,_,rfl⟩
  |halt e w=>cases e<;>exact⟨_,_,_,rfl⟩
theorem WR.rely(h:WR F P.globals.size B ρ lw w){w1:ar}(hr:gY (fun c=>(∃b,B b∧ρ b=some c)∨ρ.owns B c) w w1):WR F P.globals.size B ρ lw w1:=by
 refine⟨h.inj,h.low,h.base,fun b c hb=>?_,h.Iy⟩;obtain⟨o,o',h1,h2,h3,h4⟩:=h.at_ b c hb;refine⟨o,o',h1,?_,h3,h4⟩;rw[hr.keep c ?_,h2];rcases Classical.em (B b) with hl|hg
 ·exact .inl ⟨b,hl,hb⟩
 ·exact .inr ⟨b,hg,hb⟩
theorem mr.owns{ρ1:Rn}{jH w1:ar}{es:Array fQ}(h0:WR F P.globals.size B ρ lw w)(h:mr F P.globals.size B ρ lw w ρ1 jH w1 es):ρ1.owns B=own (ρ.owns B) w w1:=by
 funext c
 refine propext ⟨?_,?_⟩
 ·rintro⟨b,hb,he⟩;rcases h.new b c he with h1|⟨_,h2⟩
  ·exact .inl ⟨b,hb,h1⟩
  ·obtain⟨_,_,_,hc,_⟩:=h.wr.at_ b c he;exact .inr ⟨h2,eE hc⟩
 ·rintro(⟨b,hb,he⟩|⟨h1,h2⟩)
  ·exact⟨b,hb,h.le _ _ he⟩
  ·obtain⟨b,he⟩:=h.fresh c h1 h2;rcases h.new b c he with h3|⟨h3,_⟩
   ·obtain⟨_,_,_,hc,_⟩:=h0.at_ b c h3;have:=eE hc;omega
   ·exact⟨b,fun hb=>by have:=h0.base b hb;omega,he⟩
theorem mr.shared{ρ1:Rn}{jH w1:ar}{es:Array fQ}(h0:WR F P.globals.size B ρ lw w)(h:mr F P.globals.size B ρ lw w ρ1 jH w1 es)(c:Nat):(∃b,B b∧ρ1 b=some c)↔∃b,B b∧ρ b=some c:=by
 constructor
 ·rintro⟨b,hb,he⟩;rcases h.new b c he with h1|⟨h1,_⟩
  ·exact⟨b,hb,h1⟩
  ·have:=h0.base b hb;omega
 ·rintro⟨b,hb,he⟩;exact⟨b,hb,h.le _ _ he⟩
structure aef(P:aI)(F:Nat→Bool)(B:Nat→Prop)(k:List oO)(kd:jz)(cs:List bL)(Stop:aB→ar→Prop)(lw0:ar)(ρ0:Rn)(O:Nat→Prop)(g':aB)(w':ar)(fr:bL)(l:List bL)(lw:ar)(ρ:Rn)(fr':bL)(l':List bL):Prop where
 g:g'=G fr' l'
 stop:Stop (G fr l) lw
 sr:SR P F ρ k kd cs fr l fr' l'
 wr:WR F P.globals.size B ρ lw w'
 tD:P.globals.size≤w'.heap.size
 own:O=ρ.owns B
 shared:∀c,(∃b,B b∧ρ b=some c)↔∃b,B b∧ρ0 b=some c
 le:Rn.le ρ0 ρ
 grow:lw0.heap.size≤lw.heap.size
 ok:dB lw
theorem JQ(T:Quiet P)(hF:sP P F)(hS:∀g W,Stop g W→¬NZ g)(hE:kd≠.early)(hk:k=[]∨∀g W,Stop g W→g.frame.mode=.run){S:Nat→Prop} :
  ∀ {g:aB} {lw:ar},Bar P Stop g lw→zY g→dB lw→P.globals.size≤lw.heap.size→∀ {fr:bL} {l:List bL} {ρ:Rn} {fr':bL} {l':List bL} {w:ar},g=G fr l→SR P F ρ k kd cs fr l fr' l'→WR F P.globals.size B ρ lw w→P.globals.size≤w.heap.size→
   (∀c,S c↔∃b,B b∧ρ b=some c)→
   Walk P main S (fun O g' w'=>∃FU l1 jH ρ1 wA VU,aef P F B k kd cs Stop lw ρ O g' w' FU l1 jH ρ1 wA VU) (ρ.owns B) (G fr' l') w:=by
 intro g lw h
 induction h with
 |@stop g lw h=>
  rintro Wn cN hG fr l ρ fr' l' w rfl Y6 hw BR WG;have eK:(fun c=>S c∨ρ.owns B c)=fun c=>(∃b,B b∧ρ b=some c)∨ρ.owns B c:=by funext c;rw[WG c]
  refine .stop fun w1 hr=>?_;rw[eK] at hr;exact⟨fr,l,lw,ρ,fr',l',rfl,h,Y6,hw.rely hr,aN BR hr.grow,rfl,fun c=>Iff.rfl,Rn.le_refl _,ax _,cN⟩
 |@step g lw live down ih=>
  rintro Wn cN hG fr l ρ fr' l' w rfl Y6 hw BR WG;have eK:(fun c=>S c∨ρ.owns B c)=fun c=>(∃b,B b∧ρ b=some c)∨ρ.owns B c:=by funext c;rw[WG c]
  refine Walk.mk (r:=rfl) (d:=rfl) fun w1 hr=>?_;have hr0:=hr;rw[eK] at hr;have hw1:=hw.rely hr;have acY:=aN BR hr.grow;let τ:Nat→Question→Nat:=fun p=>if p<lw.drawn then lw.tape p else w1.tape (w1.drawn+(p-lw.drawn))
  have Ng:Ext lw τ:=fun i hi=>by simp only[τ,if_pos hi]
  have ht:vB (dx lw τ lw.drawn) w1:=fun i=>by simp only[yQ,pS,τ,if_neg (show ¬lw.drawn+i<lw.drawn by omega),rP]
  obtain⟨g1,jH,hl⟩:=live τ Ng;obtain⟨acX,Cp,_⟩:=qT T Wn (lw:=dx lw τ lw.drawn) cN hl
  have qH:l=[]→fr.mode=.run→fr.todo=[]→k=[]:=by
   rintro rfl hm htd;rcases hk with hk|hk
   ·exact hk
   ·exfalso;cases Y6 with
    |base hfr hi=>
     cases hfr with
     |ret _=>cases hm
     |@run fn tmps bu todo ha cN=>
      dsimp only[Fr,iZ] at htd;subst htd;have e:eP P true (G (Fr fn tmps [] .run) []) (dx lw τ lw.drawn)=.go (G (Fr fn tmps [] .returning) []) (dx lw τ lw.drawn) #[]:=rfl;obtain⟨rfl,rfl⟩:=yX hl e;have agt:=down τ Ng _ _ hl;cases agt with
      |stop h=>exact absurd (hk _ _ h) (by simp[G,Fr,iZ])
      |step ack _=>
       obtain⟨g2,w2,hl2⟩:=ack _ fun _ _=>rfl;obtain⟨o,w3,es,e3⟩:=Rq (P:=P) (lw:=dx (dx lw τ lw.drawn) (dx lw τ lw.drawn).tape (dx lw τ lw.drawn).drawn) (fn:=fn) (tmps:=tmps) (todo:=[]) hi;exact uX hl2 e3
  have Y1:WR F P.globals.size B ρ (dx lw τ lw.drawn) w1:=hw1.tape τ w1.tape lw.drawn w1.drawn;rcases abv (main:=main) hF Y1 ht hG acY Y6 qH hE with⟨o,YS,es,e⟩|⟨g2,YS,es,e,hs⟩|⟨g2,ch,v,YS,es,e,hn⟩|⟨FU,l1,YS,es,wA,VU,w2,evs,ρ1,e,e',afA,qV⟩
  ·exact(uX hl e).elim
  ·obtain⟨rfl,rfl⟩:=yX hl e;exact absurd hs (RS hS (down τ Ng _ _ hl))
  ·exact(MZ hl e hn).elim
  ·obtain⟨rfl,rfl⟩:=yX hl e;have hown:=qV.owns Y1;have XH:=qV.shared Y1;refine⟨_,_,_,e',⟨qV.grow,qV.keep,qV.tape,?_,qV.os,qV.out,fun x hx=>?_⟩,rfl,rfl,?_⟩
   ·obtain⟨k1,_,h2⟩:=qV.draw;omega
   ·refine(qV.evs x hx).mono (fun c hc=>?_) fun c hc=>by rw[hown] at hc;exact hc
    obtain⟨b,hb⟩:=hc;rcases Classical.em (B b) with hlt|hge
    ·exact .inl ((WG c).2 ((XH c).1 ⟨b,hlt,hb⟩))
    ·right;rw[←hown];exact⟨b,hge,hb⟩
   ·rw[←hown];refine(ih τ Ng _ _ hl acX Cp (aN hG qV.GL) rfl afA qV.wr (aN acY qV.grow) fun c=>(WG c).trans (XH c).symm).bind fun O g' w' hE=>?_;obtain⟨a1,a2,a3,a4,a5,a6,hE⟩:=hE
    exact .stop fun w3 h3=>⟨a1,a2,a3,a4,a5,a6,⟨hE.g,hE.stop,hE.sr,hE.wr.rely (by
     have:(fun c=>S c∨O c)=fun c=>(∃b,B b∧a4 b=some c)∨a4.owns B c:=by
      funext c;rw[WG c,hE.own,hE.shared c,XH c]
     rwa [this] at h3),aN hE.tD h3.grow,hE.own,fun c=>(hE.shared c).trans (XH c),Rn.le_trans qV.le hE.le,aN qV.GL hE.grow,hE.ok⟩⟩
end
def ND(P:aI){α:Type}:ic α→Prop
 |.pure _=>True
 |.load _ _ k=>∀v,ND P (k v)
 |.program k=>ND P (k P)
 |.halt _=>True
 |_=>False
section
variable{P:aI}{α β:Type}
theorem ND.bind{s:ic α}{f:α→ic β}(h:ND P s)(hf:∀a,ND P (f a)):ND P (s >>= f):=by
 show ND P (s.bind f)
 induction s with
 |pure a=>exact hf a
 |load m a k ih=>exact fun v=>ih v (h v)
 |program k ih=>exact ih P h
 |halt e=>trivial
 |_=>exact h.elim
theorem ND.run{s:ic α}(h:ND P s)(w:ar):∀(τ:Nat→Question→Nat) (d:Nat),s.run P (dx w τ d)=abD (s.run P w) τ d:=by
 intro τ d
 induction s with
 |pure a=>rfl
 |load m a k ih=>
  simp only[Sem.run,oJ];cases w.cell? a with
  |some v=>exact ih v (h v)
  |none=>
   simp only[vn];cases w.farLoad P a (m == .atomic) with
   |ok x=>exact ih _ (h _)
   |error e=>rfl
 |program k ih=>exact ih P h
 |halt e=>rfl
 |_=>exact h.elim
end
section
variable{P:aI}{F:Nat→Bool}{B:Nat→Prop}{ρ ρ1:Rn}{lw jH w w1:ar}{main:Bool}
structure Kn(P:aI)(F:Nat→Bool)(B:Nat→Prop)(S:Nat→Prop)(lw0:ar)(ρ0:Rn)(O:Nat→Prop)(w':ar)(lw:ar)(ρ:Rn):Prop where
 wr:WR F P.globals.size B ρ lw w'
 tD:P.globals.size≤w'.heap.size
 own:O=ρ.owns B
 shared:∀c,S c↔∃b,B b∧ρ b=some c
 le:Rn.le ρ0 ρ
 grow:lw0.heap.size≤lw.heap.size
 ok:dB lw
theorem Kn.rely{S:Nat→Prop}{lw0:ar}{ρ0:Rn}{O:Nat→Prop}{w' w2:ar}(h:Kn P F B S lw0 ρ0 O w' lw ρ)(hr:gY (fun c=>S c∨O c) w' w2):Kn P F B S lw0 ρ0 O w2 lw ρ:=
 ⟨h.wr.rely (by
  have e:(fun c=>S c∨O c)=fun c=>(∃b,B b∧ρ b=some c)∨ρ.owns B c:=by funext c;rw[h.shared c,h.own]
  rwa [e] at hr),aN h.tD hr.grow,h.own,h.shared,h.le,h.grow,h.ok⟩
theorem xg(T:Quiet P)(hF:sP P F)(hG:P.globals.size≤lw.heap.size){fn:dR}{kd:jz}(hE:kd≠.early)(hi:P.inits.idxOf? fn=none){c:Code}(hc:gS P F c=true)(hc':dP c=true){tmps bu:Array aj}(ha:iD F ρ tmps bu)
  (hw:WR F P.globals.size B ρ lw w) (BR:P.globals.size≤w.heap.size) (cN:dB lw) {Q:Act→ar→Prop} (hQ:∀a W' τ d,Q a (dx W' τ d)→Q a W')
  (h:∀τ d,c.wp P (fun e a W'=>e=.normal∧Q a W') ⟨tmps,[]⟩ (dx lw τ d)) {S:Nat→Prop} (WG:∀c,S c↔∃b,B b∧ρ b=some c) (k:List oO) (cs:List bL) :
  Walk P main S (fun O g' w'=>∃kP iQ jH ρ1,g'=G (iZ fn iQ k .run kd) cs∧iD F ρ1 kP iQ∧Q ⟨kP,[]⟩ jH∧Kn P F B S lw ρ O w' jH ρ1) (ρ.owns B) (G (iZ fn bu (.code c::k) .run kd) cs) w:=by
 have hb:Bar P (fun g W=>∃a1,g=G ((Fr fn #[] [] .run).at a1 []) []∧Q a1 W) (G (Fr fn tmps [.code c] .run) []) lw:=by
  refine Cg T ?_ ?_ ⟨⟨by simpa [G,Fr,iZ,iF] using hc',rfl⟩,by simp[G],.inl rfl⟩ cN rfl rfl fun τ _=>?_
  ·rintro g W τ d ⟨a1,h1,h2⟩;exact⟨a1,h1,hQ _ _ _ _ h2⟩
  ·rintro g W ⟨a1,rfl,_⟩;exact⟨rfl,rfl⟩
  ·obtain⟨e,a',w',⟨rfl,hq⟩,n,hn⟩:=h τ lw.drawn (Fr fn #[] [] .run) [] [];exact⟨n,G ((Fr fn #[] [] .run).at a' []) [],w',hn,a',rfl,hq⟩
 have hns:∀g W,(∃a1,g=G ((Fr fn #[] [] .run).at a1 []) []∧Q a1 W)→¬NZ g:=by
  rintro g W ⟨a1,rfl,_⟩ (hs|hs|⟨ch,hs,_⟩)
  ·exact hs rfl
  ·exact hs rfl
  ·cases hs
 have afB:SR P F ρ k kd cs (Fr fn tmps [.code c] .run) [] (iZ fn bu (.code c::k) .run kd) cs:=.base (.run (todo:=[.code c]) ha (by simpa [iE] using hc)) hi;refine(JQ (main:=main) T hF hns hE (.inr ?_) hb ⟨⟨by simpa [G,Fr,iZ,iF] using hc',rfl⟩,by simp[G],.inl rfl⟩ cN hG rfl afB hw BR WG).bind fun O g' w' hE=>?_
 ·rintro g W ⟨a1,rfl,_⟩;rfl
 obtain⟨FU,l1,jH,ρ1,wA,VU,hE⟩:=hE;obtain⟨a1,hg,hq⟩:=hE.stop
 have hfl:FU=(Fr fn #[] [] .run).at a1 []∧l1=[]:=by
  have h1:(G FU l1).frame=(G ((Fr fn #[] [] .run).at a1 []) []).frame:=by rw[hg]
  have h2:(G FU l1).callers=(G ((Fr fn #[] [] .run).at a1 []) []).callers:=by rw[hg]
  exact⟨h1,h2⟩
 obtain⟨h1,rfl⟩:=hfl;have af0:Kn P F B S lw ρ O w' jH ρ1:=⟨hE.wr,hE.tD,hE.own,fun c=>(WG c).trans (hE.shared c).symm,hE.le,hE.grow,hE.ok⟩
 have Y6:=hE.sr;have Er:=hE.g;generalize agf:([]:List bL)=l1 at Y6;cases Y6 with
 |up _ _ _ _=>cases agf
 |base hfr hin=>
  cases hfr with
  |@ret fn1 kP iQ Xv ae6 RD=>cases congrArg Frame.mode h1
  |@run fn1 kP iQ Xv RD hto=>
   have e1:fn1=fn:=congrArg Frame.fn h1;have e2:kP=a1.tmps:=congrArg Frame.tmps h1;have e3:Xv=[]:=congrArg Frame.todo h1;have e4:([]:List Deferred)=a1.defers:=congrArg Frame.defers h1;subst e1;subst e3;refine .stop fun w2 hr=>⟨kP,iQ,jH,ρ1,Er,RD,?_,af0.rely hr⟩
   rw[e2,e4];exact hq
end
def Cm:Loc→Option Nat
 |.cell a=>some a.block
 |.obj r=>some r
 |_=>none
structure PT(A:Nat→Prop)(S O:Nat→Nat→Prop)(B:Nat)(t:Trace):Prop where
 clean:∀said,¬Race said t
 known:∀i a c,touchAt t i=some a→Cm a.loc=some c→Knows t 0 i∨∃g,A g∧t.g? i=some g∧(O g c∨(a.write=false∧S g c))
 wk:∀g,A g→∀i a c,touchAt t i=some a→Cm a.loc=some c→S g c→a.write=true→Knows t g i
 ow:∀g,A g→∀i a c,touchAt t i=some a→Cm a.loc=some c→O g c→t.g? i=some g
 over:∀i g,t.g? i=some g→g≠0→t.counts i→(∃j,t.g? j=some 0∧HappensBefore t i j)∨A g
 hears:Deaf t 0=0
 tv:∀g,A g→Deaf t g=0
 seen:∀op∈t,op.act.low B
 pos:∀g,A g→g≠0
section
variable{A A':Nat→Prop}{S O S' O':Nat→Nat→Prop}{B B':Nat}{t u:Trace}
theorem Eb{l:Loc}:l.isMemory=true↔∃c,Cm l=some c:=by
 cases l<;>simp[Loc.isMemory,Cm]
theorem Kw{l:Loc}{c:Nat}(h:Cm l=some c)(hl:l.low B):c<B:=by
 cases l<;>simp only[Cm,gw,reduceCtorEq] at h
 ·subst h;exact hl
 ·subst h;exact hl
theorem PB{op:MemOp}{x:Touch}{c:Nat}(h:op.act.touch?=some x)(hc:Cm x.loc=some c)(hl:op.act.low B):c<B:=by
 obtain⟨g,fn,pos,act⟩:=op;cases act with
 |access e=>
  simp only[MemAct.touch?,gw] at h;subst h;exact Kw hc hl
 |mark m=>
  cases m<;>simp only[MemAct.touch?,gw,reduceCtorEq] at h<;>(subst h;exact Kw hc hl)
 |_=>cases h
theorem PT.VG(h:LY B t):PT (fun _=>False) S O B t:=by
 refine⟨h.clean,fun i a c ha hc=>.inl ?_,fun g hg=>hg.elim,fun g hg=>hg.elim,fun i g h1 h2 h3=>.inl (h.over i g h1 h2 h3),h.hears,fun g hg=>hg.elim,h.seen,fun g hg=>hg.elim⟩;rcases h.known i a ha (Eb.2 ⟨c,hc⟩) with hk|⟨hs,_⟩
 ·exact hk
 ·exact hs.elim
theorem PT.past(h:PT A S O B t)(hA:∀g,¬A g):LY B t:=by
 refine⟨h.clean,fun i a ha hm=>.inl ?_,fun i g h1 h2 h3=>(h.over i g h1 h2 h3).resolve_right (hA g),h.hears,h.seen⟩;obtain⟨c,hc⟩:=Eb.1 hm;rcases h.known i a c ha hc with hk|⟨g,hg,_⟩
 ·exact hk
 ·exact(hA g hg).elim
theorem PT.mono(h:PT A S O B t)(hB:B≤B'):PT A S O B' t:=⟨h.clean,h.known,h.wk,h.ow,h.over,h.hears,h.tv,fun op hop=>MemAct.low_mono hB (h.seen op hop),h.pos⟩
theorem PT.lt(h:PT A S O B t){i:Nat}{a:Touch}{c:Nat}(ha:touchAt t i=some a)(hc:Cm a.loc=some c):c<B:=by
 obtain⟨x,hx,wP⟩:=touch_of ha;exact PB wP hc (h.seen x (mem_of_getElem? hx))
theorem g?_app{i:Nat}{g:Nat}(h:t.g? i=some g):(t++u).g? i=some g:=by
 obtain⟨x,hx,hg⟩:=eD.1 h;rw[g?_old (lt_size_of_getElem? hx)];exact h
def Jv(R W:Nat→Prop)(op:MemOp):Prop:=∀x,op.act.touch?=some x→x.kind=.plain∧∃c,Cm x.loc=some c∧R c∧(x.write=true→W c)
def nU(op:MemOp):Prop:=op.act≠.mark .disable∧op.act≠.mark .enable
theorem gZ(t:Trace)(g:Nat)(u:Trace)(hu:∀op∈u,nU op):Deaf (t++u) g=Deaf t g:=by
 have key:∀(l:List MemOp) (d:Nat),(∀op∈l,nU op)→l.foldl (deafStep g) d=d:=by
  intro l
  induction l with
  |nil=>intro d _;rfl
  |cons y l ih=>
   intro d hl;have hy:=hl y (by simp);rw[List.foldl_cons]
   have:deafStep g d y=d:=by
    unfold deafStep;split
    ·rename_i e;exact absurd e hy.1
    ·rename_i e;exact absurd e hy.2
    ·rfl
   rw[this];exact ih d fun op hop=>hl op (by simp[hop])
 have:=Deaf_append t g u.toList;simp only[Array.toArray_toList] at this;rw[this];exact key _ _ fun op hop=>hu op (by simpa using hop)
theorem q9{i:Nat}(hi:i<t.size):(t++u).counts i→t.counts i:=by
 rintro⟨x,hx,hm,hk⟩;refine⟨x,?_,hm,?_⟩
 ·rw[act?_old hi] at hx;exact hx
 ·exact hk.imp id fun h=>(heard_old hi).1 h
theorem zB{i:Nat}(h:t.counts i):∃x c,touchAt t i=some x∧Cm x.loc=some c:=by
 obtain⟨x,hx,hm,_⟩:=h;obtain⟨c,hc⟩:=Eb.1 hm;exact⟨x,c,hx,hc⟩
theorem PT.app0(h:PT A S O B t){R W:Nat→Prop}(hB:B≤B')(hu:∀op∈u,op.g=0∧Jv R W op∧nU op∧op.act.low B')(hR:∀g,A g→∀c,R c→¬O g c)(hW:∀g,A g→∀c,W c→¬S g c):PT A S O B' (t++u):=by
 refine⟨fun said=>noRace_append (h.clean said) (fun op hop=>(hu op hop).1) fun i a ha op hop b hb hc=>?_,fun i a c ha hc=>?_,fun g hg i a c ha hc hs hw=>?_,fun g hg i a c ha hc ho=>?_,fun i g h1 h2 h3=>?_,?_,fun g hg=>?_,?_,h.pos⟩
 ·obtain⟨_,c,X4,hr,hwr⟩:=(hu op hop).2.1 b hb;rcases h.known i a c ha (hc.1▸X4) with hk|⟨g,hg,_,KJ⟩
  ·exact hk
  ·rcases KJ with ho|⟨hw,hs⟩
   ·exact absurd ho (hR g hg c hr)
   ·have uz:b.write=true:=by
     rcases hc.2.2.1 with h1|h1
     ·rw[hw] at h1;cases h1
     ·exact h1
    exact absurd hs (hW g hg c (hwr uz))
 ·obtain⟨x,hx,wP⟩:=touch_of ha;rcases gT hx with⟨hi,hx'⟩|⟨_,GR⟩
  ·rcases h.known i a c (by rw[touchAt_of hx'];exact wP) hc with hk|⟨g,hg,Nd,KJ⟩
   ·exact .inl (hk.app u)
   ·exact .inr ⟨g,hg,g?_app Nd,KJ⟩
  ·have:=knows_own hx;rw[(hu x GR).1] at this;exact .inl this
 ·obtain⟨x,hx,wP⟩:=touch_of ha;rcases gT hx with⟨hi,hx'⟩|⟨_,GR⟩
  ·exact(h.wk g hg i a c (by rw[touchAt_of hx'];exact wP) hc hs hw).app u
  ·obtain⟨_,c',hc',_,hwr⟩:=(hu x GR).2.1 a wP;rw[hc] at hc';cases hc';exact absurd hs (hW g hg c (hwr hw))
 ·obtain⟨x,hx,wP⟩:=touch_of ha;rcases gT hx with⟨hi,hx'⟩|⟨_,GR⟩
  ·exact g?_app (h.ow g hg i a c (by rw[touchAt_of hx'];exact wP) hc ho)
  ·obtain⟨_,c',hc',hr,_⟩:=(hu x GR).2.1 a wP;rw[hc] at hc';cases hc';exact absurd ho (hR g hg c hr)
 ·obtain⟨x,hx,IX⟩:=eD.1 h1;rcases gT hx with⟨hi,hx'⟩|⟨_,GR⟩
  ·rcases h.over i g (by rw[←g?_old (u:=u) hi];exact h1) h2 (q9 hi h3) with⟨j,hj,hb⟩|hA
   ·exact .inl ⟨j,g?_app hj,hb_app u hb⟩
   ·exact .inr hA
  ·rw[(hu x GR).1] at IX;exact absurd IX.symm h2
 ·rw[gZ _ _ _ fun op hop=>(hu op hop).2.2.1];exact h.hears
 ·rw[gZ _ _ _ fun op hop=>(hu op hop).2.2.1];exact h.tv g hg
 ·exact seen_app (fun op hop=>MemAct.low_mono hB (h.seen op hop)) fun op hop=>(hu op hop).2.2.2
theorem PT.appW(h:PT A S O B t){k:Nat}(hk:A k){W:Nat→Prop}(hB:B≤B')(hu:∀op∈u,op.g=k∧Jv (fun c=>S k c∨W c) W op∧nU op∧op.act.low B')
  (hW:∀c,W c→O k c∨B≤c) (hO:∀c,O k c→W c) (sS:∀c,W c→¬S k c) (hg:∀g,A g→g≠k→∀c,W c→¬S g c∧¬O g c) (hs:∀g,A g→g≠k→∀c,S k c→¬O g c) :
  PT A S (fun g=>if g=k then W else O g) B' (t++u):=by
 refine⟨fun said=>noRace_append (h.clean said) (fun op hop=>(hu op hop).1) fun i a ha op hop b hb hc=>?_,fun i a c ha hc=>?_,fun g Nf i a c ha hc hs' hw=>?_,fun g Nf i a c ha hc ho=>?_,fun i g h1 h2 h3=>?_,?_,fun g Nf=>?_,?_,h.pos⟩
 ·obtain⟨_,c,X4,hr,hwr⟩:=(hu op hop).2.1 b hb;have hac:Cm a.loc=some c:=hc.1▸X4;have hlt:=h.lt ha hac
  have own:O k c→Knows t k i:=fun ho=>by
   have:=h.ow k hk i a c ha hac ho;obtain⟨x,hx,IX⟩:=eD.1 this;have:=knows_own hx;rwa [IX] at this
  rcases hr with hr|hr
  ·rcases hc.2.2.1 with h1|h1
   ·exact h.wk k hk i a c ha hac hr h1
   ·exact absurd hr (sS c (hwr h1))
  ·rcases hW c hr with ho|hge
   ·exact own ho
   ·omega
 ·obtain⟨x,hx,wP⟩:=touch_of ha;rcases gT hx with⟨hi,hx'⟩|⟨_,GR⟩
  ·rcases h.known i a c (by rw[touchAt_of hx'];exact wP) hc with qq|⟨g,Nf,Nd,KJ⟩
   ·exact .inl (qq.app u)
   ·refine .inr ⟨g,Nf,g?_app Nd,KJ.imp (fun ho=>?_) id⟩
    by_cases e:g=k
    ·subst e;simp only[if_true];exact hO c ho
    ·simp only[e,if_false];exact ho
  ·obtain⟨_,c',hc',hr,hwr⟩:=(hu x GR).2.1 a wP;rw[hc] at hc';cases hc';refine .inr ⟨k,hk,by simp only[Trace.g?,hx,dI];rw[(hu x GR).1],?_⟩;simp only[if_true];rcases hr with hr|hr
   ·cases hw:a.write with
    |false=>exact .inr ⟨rfl,hr⟩
    |true=>exact .inl (hwr hw)
   ·exact .inl hr
 ·obtain⟨x,hx,wP⟩:=touch_of ha;rcases gT hx with⟨hi,hx'⟩|⟨_,GR⟩
  ·exact(h.wk g Nf i a c (by rw[touchAt_of hx'];exact wP) hc hs' hw).app u
  ·obtain⟨_,c',hc',_,hwr⟩:=(hu x GR).2.1 a wP;rw[hc] at hc';cases hc'
   by_cases e:g=k
   ·subst e;exact absurd hs' (sS c (hwr hw))
   ·exact absurd hs' (hg g Nf e c (hwr hw)).1
 ·obtain⟨x,hx,wP⟩:=touch_of ha
  by_cases e:g=k
  ·subst e;simp only[if_true] at ho;rcases gT hx with⟨hi,hx'⟩|⟨_,GR⟩
   ·have ha':touchAt t i=some a:=by rw[touchAt_of hx'];exact wP
    rcases hW c ho with Zg|hge
    ·exact g?_app (h.ow g Nf i a c ha' hc Zg)
    ·have:=h.lt ha' hc;omega
   ·simp only[Trace.g?,hx,dI];rw[(hu x GR).1]
  ·simp only[e,if_false] at ho;rcases gT hx with⟨hi,hx'⟩|⟨_,GR⟩
   ·exact g?_app (h.ow g Nf i a c (by rw[touchAt_of hx'];exact wP) hc ho)
   ·obtain⟨_,c',hc',hr,_⟩:=(hu x GR).2.1 a wP;rw[hc] at hc';cases hc';rcases hr with hr|hr
    ·exact absurd ho (hs g Nf e c hr)
    ·exact absurd ho (hg g Nf e c hr).2
 ·obtain⟨x,hx,IX⟩:=eD.1 h1;rcases gT hx with⟨hi,hx'⟩|⟨_,GR⟩
  ·rcases h.over i g (by rw[←g?_old (u:=u) hi];exact h1) h2 (q9 hi h3) with⟨j,hj,hb⟩|hA
   ·exact .inl ⟨j,g?_app hj,hb_app u hb⟩
   ·exact .inr hA
  ·rw[(hu x GR).1] at IX;exact .inr (IX▸hk)
 ·rw[gZ _ _ _ fun op hop=>(hu op hop).2.2.1];exact h.hears
 ·rw[gZ _ _ _ fun op hop=>(hu op hop).2.2.1];exact h.tv g Nf
 ·exact seen_app (fun op hop=>MemAct.low_mono hB (h.seen op hop)) fun op hop=>(hu op hop).2.2.2
theorem eT(hn:∀op∈u,op.act.touch?=none){i:Nat}{a:Touch}(h:touchAt (t++u) i=some a):i<t.size∧touchAt t i=some a:=by
 obtain⟨x,hx,wP⟩:=touch_of h;rcases gT hx with⟨hi,hx'⟩|⟨_,GR⟩
 ·exact⟨hi,by rw[touchAt_of hx'];exact wP⟩
 ·rw[hn x GR] at wP;cases wP
theorem BM(h:∀said,¬Race said t)(hn:∀op∈u,op.act.touch?=none)(said:Bool):¬Race said (t++u):=by
 rintro⟨i,j,U1,⟨a,b,ha,hb,hc⟩,n1,n2⟩;obtain⟨hi,ha'⟩:=eT hn ha;obtain⟨hj,hb'⟩:=eT hn hb;exact h said ⟨i,j,U1,⟨a,b,ha',hb',hc⟩,fun e=>n1 (hb_app u e),fun e=>n2 (hb_app u e)⟩
theorem PT.appMute(h:PT A S O B t)(hB:B≤B')(hn:∀op∈u,op.act.touch?=none∧nU op∧op.act.low B')(hA:∀g,A' g→A g)(hK:∀g,A g→¬A' g→∀i,Knows t g i→Knows (t++u) 0 i∧∃j,(t++u).g? j=some 0∧HappensBefore (t++u) i j):PT A' S O B' (t++u):=by
 have hn':=fun op hop=>(hn op hop).1;refine⟨BM h.clean hn',fun i a c ha hc=>?_,fun g hg i a c ha hc hs hw=>?_,fun g hg i a c ha hc ho=>?_,fun i g h1 h2 h3=>?_,?_,fun g hg=>?_,?_,fun g hg=>h.pos g (hA g hg)⟩
 ·obtain⟨hi,ha'⟩:=eT hn' ha;rcases h.known i a c ha' hc with hk|⟨g,hg,Nd,KJ⟩
  ·exact .inl (hk.app u)
  ·by_cases Fo:A' g
   ·exact .inr ⟨g,Fo,g?_app Nd,KJ⟩
   ·obtain⟨x,hx,IX⟩:=eD.1 Nd;have hkn:=knows_own hx;rw[IX] at hkn;exact .inl (hK g hg Fo i hkn).1
 ·obtain⟨hi,ha'⟩:=eT hn' ha;exact(h.wk g (hA g hg) i a c ha' hc hs hw).app u
 ·obtain⟨hi,ha'⟩:=eT hn' ha;exact g?_app (h.ow g (hA g hg) i a c ha' hc ho)
 ·obtain⟨x,c,hx,_⟩:=zB h3;obtain⟨hi,_⟩:=eT hn' hx;have Nd:t.g? i=some g:=by rw[←g?_old (u:=u) hi];exact h1
  rcases h.over i g Nd h2 (q9 hi h3) with⟨j,hj,hb⟩|Nf
  ·exact .inl ⟨j,g?_app hj,hb_app u hb⟩
  ·by_cases Fo:A' g
   ·exact .inr Fo
   ·obtain⟨x,hx,IX⟩:=eD.1 Nd;have hkn:=knows_own hx;rw[IX] at hkn;exact .inl (hK g Nf Fo i hkn).2
 ·rw[gZ _ _ _ fun op hop=>(hn op hop).2.1];exact h.hears
 ·rw[gZ _ _ _ fun op hop=>(hn op hop).2.1];exact h.tv g (hA g hg)
 ·exact seen_app (fun op hop=>MemAct.low_mono hB (h.seen op hop)) fun op hop=>(hn op hop).2.2
end
section
variable{A A':Nat→Prop}{S O S' O':Nat→Nat→Prop}{B B':Nat}{t u:Trace}
theorem Ua{g:Nat}(hu:∀op∈u,nU op):∀m,m≤u.size→(t++u).deaf g (t.size+m)=Deaf t g:=by
 intro m
 induction m with
 |zero=>intro _;exact deaf_old (ax _)
 |succ m ih=>
  intro hm
  have Zs:(t++u)[t.size+m]?=some u[m]:=by
   rw[Array.getElem?_append_right (by omega),rP,aM (by omega)]
  rw[show t.size+(m+1)=t.size+m+1 by omega,deaf_succ Zs,ih (by omega)];have hy:=hu u[m] (Array.getElem_mem _);unfold deafStep;split
  ·rename_i e;exact absurd e hy.1
  ·rename_i e;exact absurd e hy.2
  ·rfl
theorem heard_new(hu:∀op∈u,nU op){m:Nat}{x:MemOp}(hx:u[m]?=some x)(hd:Deaf t x.g=0):(t++u).heard (t.size+m):=by
 have hm:m<u.size:=(ak.1 hx).1;refine⟨x.g,?_,?_⟩
 ·rw[Trace.g?,Array.getElem?_append_right (by omega),rP,hx];rfl
 ·rw[Ua hu m (by omega)];exact hd
theorem TD(hu:∀op∈u,nU op){k c n m m':Nat}{x y:MemOp}(hx:u[m]?=some x)(hy:u[m']?=some y)(Te:x.g=k)(wP:x.act=.send c n)(OT:y.g=0)(hya:y.act=.recvDone c n)
  (Me:Deaf t k=0) (hd0:Deaf t 0=0) {i:Nat} (h:Knows t k i):Knows (t++u) 0 i∧∃j,(t++u).g? j=some 0∧HappensBefore (t++u) i j:=by
 have hxp:(t++u)[t.size+m]?=some x:=by rw[Array.getElem?_append_right (by omega),rP,hx]
 have hyp:(t++u)[t.size+m']?=some y:=by rw[Array.getElem?_append_right (by omega),rP,hy]
 have h1:=h.hb_new (by omega) hxp Te;have e:HappensBefore (t++u) (t.size+m) (t.size+m'):=.single (.inr ⟨.handOver (c:=c) (k:=n) (by rw[act?_of hxp,wP]) (by rw[act?_of hyp,hya]),heard_new hu hx (by rw[Te];exact Me),heard_new hu hy (by rw[OT];exact hd0)⟩);have h2:=h1.trans e;exact⟨⟨_,y,hyp,OT,.inr h2⟩,_,by simp[Trace.g?,hyp,OT],h2⟩
def Ho(k c n:Nat)(u:Trace):Prop:=∃f1 p1 f2 p2 f3 p3 f4 p4 cap,u = #[{ g:=k,fn:=f1,pos:=p1,act:=.send c n },{ g:=0,fn:=f2,pos:=p2,act:=.recv c n cap },{ g:=k,fn:=f3,pos:=p3,act:=.sendDone c n },{ g:=0,fn:=f4,pos:=p4,act:=.recvDone c n }]
theorem Ho.mute{k c n:Nat}(h:Ho k c n u)(hc:c<B'):∀op∈u,op.act.touch?=none∧nU op∧op.act.low B':=by
 obtain⟨f1,p1,f2,p2,f3,p3,f4,p4,cap,rfl⟩:=h;intro op hop;simp only[eI,bR,gh,or_false] at hop;rcases hop with rfl|rfl|rfl|rfl<;>exact⟨rfl,⟨by simp,by simp⟩,hc⟩
theorem PT.aby(h:PT A S O B t)(hB:B≤B'){k c n:Nat}(hu:Ho k c n u)(hc:c<B')(hk:A k)(hA:∀g,A' g↔A g∨False):PT A' S O B' (t++u):=
 h.appMute hB (hu.mute hc) (fun g hg=>((hA g).1 hg).resolve_right id) fun g hg hn=>absurd ((hA g).2 (.inl hg)) hn
theorem PT.PO(h:PT A S O B t)(hB:B≤B'){k c n:Nat}(hu:Ho k c n u)(hc:c<B')(hk:A k):PT (fun g=>A g∧g≠k) S O B' (t++u):=by
 refine h.appMute hB (hu.mute hc) (fun g hg=>hg.1) fun g hg hn i hkn=>?_;have e:g=k:=Classical.byContradiction fun e=>hn ⟨hg,e⟩;subst e;have hw:=fun op hop=>(hu.mute hc op hop).2.1;have hd0:=h.hears;have Me:=h.tv g hk;obtain⟨f1,p1,f2,p2,f3,p3,f4,p4,cap,rfl⟩:=hu;exact TD hw (m:=0) (m':=3) rfl rfl rfl rfl rfl rfl Me hd0 hkn
theorem PT.spawn(h:PT A S O B t)(hB:B≤B'){k:Nat}(hk:¬A k)(hk0:k≠0)(Me:Deaf t k=0){x y:MemOp}(hx:x.g=0∧x.act=.go k)(hy:y.g=k∧y.act=.start){Sk:Nat→Prop}(hs:∀g,A g→∀c,Sk c→¬O g c) :
  PT (fun g=>A g∨g=k) (fun g=>if g=k then Sk else S g) (fun g=>if g=k then fun _=>False else O g) B' (t++#[x,y]):=by
 have hn:∀op∈#[x,y],op.act.touch?=none∧nU op∧op.act.low B':=by
  intro op hop;simp only[eI,bR,gh,or_false] at hop;rcases hop with rfl|rfl
  ·rw[hx.2];exact⟨rfl,⟨by rw[hx.2];simp,by rw[hx.2];simp⟩,trivial⟩
  ·rw[hy.2];exact⟨rfl,⟨by rw[hy.2];simp,by rw[hy.2];simp⟩,trivial⟩
 have hn':=fun op hop=>(hn op hop).1;have h1:PT A S O B' (t++#[x,y]):=h.appMute hB hn (fun g hg=>hg) fun g hg hn=>absurd hg hn;have hne:∀g,A g→g≠k:=fun g hg e=>hk (e▸hg);refine⟨h1.clean,fun i a c ha hc=>?_,fun g hg i a c ha hc hs' hw=>?_,fun g hg i a c ha hc ho=>?_,fun i g e1 e2 e3=>(h1.over i g e1 e2 e3).imp id .inl,h1.hears,fun g hg=>?_,h1.seen,fun g hg=>?_⟩
 ·rcases h1.known i a c ha hc with qq|⟨g,hg,Nd,KJ⟩
  ·exact .inl qq
  ·exact .inr ⟨g,.inl hg,Nd,by simpa only[hne g hg,if_false] using KJ⟩
 ·by_cases e:g=k
  ·subst e;simp only[if_true] at hs';obtain⟨_,ha'⟩:=eT hn' ha;rcases h.known i a c ha' hc with qq|⟨g',Fo,_,KJ⟩
   ·exact Go.ConcN.fork_knows hx hy h.hears Me qq
   ·rcases KJ with ho|⟨hw',_⟩
    ·exact absurd ho (hs g' Fo c hs')
    ·rw[hw] at hw';cases hw'
  ·simp only[e,if_false] at hs';exact h1.wk g (hg.resolve_right e) i a c ha hc hs' hw
 ·by_cases e:g=k
  ·simp only[e,if_true] at ho
  ·simp only[e,if_false] at ho;exact h1.ow g (hg.resolve_right e) i a c ha hc ho
 ·rcases hg with hg|rfl
  ·exact h1.tv g hg
  ·rw[gZ _ _ _ fun op hop=>(hn op hop).2.1];exact Me
 ·rcases hg with hg|rfl
  ·exact h1.pos g hg
  ·exact hk0
end
section
variable{P:aI}
theorem EP(q:Question){α:Type}(f:Nat→ic α)(n:Nat)(hn:0<n)(hq:q=.select n∨∃what,q=.extern what n)(w:ar):∃a d,a<n∧(zU q >>= f).run P w=(f a).run P (w.at d):=by
 have e:(zU q >>= f).run P w=if q.forced then(f 0).run P w else(f (q.cut (w.tape w.drawn q))).run P { w with drawn:=w.drawn+1 }:=rfl
 rw[e]
 by_cases hf:q.forced=true
 ·exact⟨0,w.drawn,hn,by rw[if_pos hf];rfl⟩
 ·refine⟨_,w.drawn+1,?_,by rw[if_neg hf];rfl⟩;rcases hq with rfl|⟨what,rfl⟩
  ·simp only[Question.cut];exact Nat.mod_lt _ hn
  ·simp only[Question.cut];rw[if_neg (by omega)];exact Nat.mod_lt _ hn
def Io(ready:List (Nat × mI × List Way)):ic (Nat × mI × Way):=do
 let a ←zU (.select ready.length);let (k,c,ws):=ready.getD a (0,default,[])
 let b ←zU (.extern "which waiting goroutine is the partner" ws.length)
 pure (k,c,ws.getD b .closed)
theorem Sp(ready:List (Nat × mI × List Way))(hne:ready≠[])(hw:∀x∈ready,x.2.2≠[])(w:ar) :
  ∃x∈ready,∃y∈x.2.2,∃d,(Io ready).run P w=.ok (x.1,x.2.1,y) (w.at d):=by
 unfold Io
 obtain⟨a,d,ha,e⟩:=EP (P:=P) (.select ready.length) (fun a=>do
  let (k,c,ws):=ready.getD a (0,default,[])
  let b ←zU (.extern "which waiting goroutine is the partner" ws.length)
  pure (k,c,ws.getD b .closed)) ready.length (cQ.2 hne) (.inl rfl) w
 rw[e];have hx:ready.getD a (0,default,[])=ready[a]:=by simp[List.getD,ha]
 rw[hx];have hmem:ready[a]∈ready:=bO ha;generalize ready[a]=x at hmem;obtain⟨k,c,ws⟩:=x;have JD:=hw _ hmem;dsimp only at JD ⊢
 obtain⟨b,d',hb,e2⟩:=EP (P:=P) (.extern "which waiting goroutine is the partner" ws.length) (fun b=>(pure (k,c,ws.getD b .closed):ic (Nat × mI × Way))) ws.length (cQ.2 JD) (.inr ⟨_,rfl⟩) (w.at d);refine⟨_,hmem,ws[b],bO hb,d',?_⟩;rw[e2];have:ws.getD b .closed=ws[b]:=by simp[List.getD,hb]
 rw[this];rfl
variable{gs:Array aB}{w w₁:ar}{sl:Option (Nat × Nat)}{i:Nat}{g g₂:aB}{es:Array fQ}{c0 c1 s0 r0 s1 r1:Nat}{t0 t1:Bool}{z0 z1:aj}
theorem rR{w:ar}{gs:Array aB}{c s r:Nat}{tm:Bool}{z:aj}(hc:w.heap[c]?=some (.chan 0 #[] false s r tm)):ways w gs (rcase c z)=(wH gs c true).map fun(h,k)=>Way.partner h k:=by
 simp only[ways,rcase,hc];cases wH gs c true with
 |nil=>simp
 |cons p ps=>simp
theorem FW(hi:gs[i]?=some g)(h:eP P (i==0) g w=.comm g₂ #[rcase c0 z0,rcase c1 z1] true .select w₁ es)
  (h0:w₁.heap[c0]?=some (.chan 0 #[] false s0 r0 t0)) (h1:w₁.heap[c1]?=some (.chan 0 #[] false s1 r1 t1))
  (hne:wH (gs.setIfInBounds i ph) c0 true≠[]∨wH (gs.setIfInBounds i ph) c1 true≠[])
  (hall:∀c,c=c0∨c=c1→∀j k,(j,k)∈wH (gs.setIfInBounds i ph) c true→k=0∧j≠i∧∃gj vj zj shj,gs[j]?=some (ie gj #[nz c vj zj] shj)) :
  ∃(kk c s r:Nat) (tm:Bool) (j:Nat) (gj:aB) (vj zj:aj) (shj:CommShape) (d:Nat),((kk=0∧c=c0∧s=s0∧r=r0∧tm=t0)∨(kk=1∧c=c1∧s=s1∧r=r1∧tm=t1))∧j≠i∧gs[j]?=some (ie gj #[nz c vj zj] shj)∧
   runT P (crowd gs w sl) i=(.next (crowd ((gs.setIfInBounds j (gj.finishComm P #[nz c vj zj] shj 0 af false)).setIfInBounds i (g₂.finishComm P #[rcase c0 z0,rcase c1 z1] .select kk vj true)) ((w₁.at d).setChan c 0 #[] false (s+1) (r+1) tm) sl),
    ij i g.frame.fn g.frame.place es++#[{ g:=j,fn:=gj.frame.fn,pos:=gj.frame.place,act:=.send c s },{ g:=i,fn:=g₂.frame.fn,pos:=g₂.frame.place,act:=.recv c r 0 },
     { g:=j,fn:=gj.frame.fn,pos:=gj.frame.place,act:=.sendDone c s },{ g:=i,fn:=g₂.frame.fn,pos:=g₂.frame.place,act:=.recvDone c r }]):=by
 have hw0:=rR (gs:=gs.setIfInBounds i ph) (z:=z0) h0;have hw1:=rR (gs:=gs.setIfInBounds i ph) (z:=z1) h1;generalize hL:((#[rcase c0 z0,rcase c1 z1].zipIdx.toList.map fun(c,k)=>(k,c,ways w₁ (gs.setIfInBounds i ph) c)).filter fun(_,_,ws)=>!ws.isEmpty)=L
 have hmem:∀x,x∈L↔(x=(0,rcase c0 z0,ways w₁ (gs.setIfInBounds i ph) (rcase c0 z0))∨x=(1,rcase c1 z1,ways w₁ (gs.setIfInBounds i ph) (rcase c1 z1)))∧x.2.2≠[]:=by
  intro x;rw[←hL];simp[List.mem_filter]
 have adi:L≠[]:=by
  intro e;rcases hne with hn|hn
  ·have:=(hmem _).2 ⟨.inl rfl,by rw[hw0];simpa using hn⟩;rw[e] at this;cases this
  ·have:=(hmem _).2 ⟨.inr rfl,by rw[hw1];simpa using hn⟩;rw[e] at this;cases this
 obtain⟨x,hx,y,hy,d,XL⟩:=Sp (P:=P) L adi (fun x hx=>((hmem x).1 hx).2) w₁
 have Zn : #[rcase c0 z0,rcase c1 z1].any (illMade w₁)=false:=by
  refine any_ill fun cc hcc=>?_;simp only[eI,bR,gh,or_false] at hcc;rcases hcc with rfl|rfl
  ·exact made_recv z0 h0
  ·exact made_recv z1 h1
 have key:∀(kk c s r:Nat) (tm:Bool) (z:aj),w₁.heap[c]?=some (.chan 0 #[] false s r tm)→(c=c0∨c=c1)→∀y,y∈((wH (gs.setIfInBounds i ph) c true).map fun(h,k)=>Way.partner h k)→(Io L).run P w₁=.ok (kk,rcase c z,y) (w₁.at d)→
   ∃(j:Nat) (gj:aB) (vj zj:aj) (shj:CommShape),j≠i∧gs[j]?=some (ie gj #[nz c vj zj] shj)∧
   runT P (crowd gs w sl) i=(.next (crowd ((gs.setIfInBounds j (gj.finishComm P #[nz c vj zj] shj 0 af false)).setIfInBounds i (g₂.finishComm P #[rcase c0 z0,rcase c1 z1] .select kk vj true)) ((w₁.at d).setChan c 0 #[] false (s+1) (r+1) tm) sl),
    ij i g.frame.fn g.frame.place es++#[{ g:=j,fn:=gj.frame.fn,pos:=gj.frame.place,act:=.send c s },{ g:=i,fn:=g₂.frame.fn,pos:=g₂.frame.place,act:=.recv c r 0 },
     { g:=j,fn:=gj.frame.fn,pos:=gj.frame.place,act:=.sendDone c s },{ g:=i,fn:=g₂.frame.fn,pos:=g₂.frame.place,act:=.recvDone c r }]):=by
  intro kk c s r tm z hc hcc y hy RA;obtain⟨⟨j,k⟩,hjk,rfl⟩:=cY.1 hy;obtain⟨rfl,U1,gj,vj,zj,shj,hj⟩:=hall c hcc j k hjk;refine⟨j,gj,vj,zj,shj,U1,hj,?_⟩;have hj':=stand_get (i:=i) U1 hj;have hfp:=finishPartner_at P (gs.setIfInBounds i ph) hj' (cs:=#[nz c vj zj]) (sh:=shj) rfl 0 af;have hgd:(gs.setIfInBounds i ph).getD j default=ie gj #[nz c vj zj] shj:=by rw[Array.getD_eq_getD_getElem?,hj'];rfl
  have iY:offeredValue (gs.setIfInBounds i ph) j 0=vj:=by simp[offeredValue,hj',ie,nz]
  rw[Go.Conc.runT_crowd_comm hi h];unfold communicate;unfold Io at RA
  have hLe:L.isEmpty=false:=by cases L with
   |nil=>exact absurd rfl adi
   |cons a l=>rfl
  simp only[hL,hLe,bw,if_false,RA];have hcd:(w₁.at d).heap[c]?=some (.chan 0 #[] false s r tm):=hc;rw[if_neg]
  ·simp[rcase,hcd,hfp,hgd,iY,set_stand2,nz,ie,World.setChan,crowd];rfl
  ·rw[Bool.not_eq_true];exact Zn
 rcases((hmem x).1 hx).1 with rfl|rfl
 ·obtain⟨j,gj,vj,zj,shj,h5,h6,h7⟩:=key 0 c0 s0 r0 t0 z0 h0 (.inl rfl) y (by rw[←hw0];exact hy) XL;exact⟨0,c0,s0,r0,t0,j,gj,vj,zj,shj,d,.inl ⟨rfl,rfl,rfl,rfl,rfl⟩,h5,h6,h7⟩
 ·obtain⟨j,gj,vj,zj,shj,h5,h6,h7⟩:=key 1 c1 s1 r1 t1 z1 h1 (.inr rfl) y (by rw[←hw1];exact hy) XL;exact⟨1,c1,s1,r1,t1,j,gj,vj,zj,shj,d,.inr ⟨rfl,rfl,rfl,rfl,rfl⟩,h5,h6,h7⟩
end
inductive oN{α:Type}(R:α→α→Prop):List α→List α→Prop
 |nil:oN R [] []
 |cons {x y:α} {l m:List α}:R x y→oN R l m→oN R (x::l) (y::m)
inductive LT{α:Type}(D E:α→α→Prop):List α→List α→Prop
 |drop {x:α} {l l':List α}:oN E l' l→LT D E l' (x::l)
 |head {x x':α} {l l':List α}:D x' x→oN E l' l→LT D E (x'::l') (x::l)
 |tail {x x':α} {l l':List α}:E x' x→LT D E l' l→LT D E (x'::l') (x::l)
section
variable{α:Type}{D E:α→α→Prop}
theorem oN.refl(hr:∀x,E x x):∀l,oN E l l
 |[]=>.nil
 |x::l=>.cons (hr x) (oN.refl hr l)
theorem oN.trans(ht:∀x y z,E x y→E y z→E x z){a b c:List α}(h:oN E a b):oN E b c→oN E a c:=by
 induction h generalizing c with
 |nil=>intro h;exact h
 |cons h1 _ ih=>intro h2;cases h2 with|cons h3 h4=>exact .cons (ht _ _ _ h1 h3) (ih h4)
theorem LT.shift(ht:∀x y z,E x y→E y z→E x z)(hd:∀x y z,D x y→E y z→D x z){a b c:List α}(h:LT D E a b):oN E b c→LT D E a c:=by
 induction h generalizing c with
 |drop h=>intro h2;cases h2 with|cons h3 h4=>exact .drop (h.trans ht h4)
 |head h1 h=>intro h2;cases h2 with|cons h3 h4=>exact .head (hd _ _ _ h1 h3) (h.trans ht h4)
 |tail h1 _ ih=>intro h2;cases h2 with|cons h3 h4=>exact .tail (ht _ _ _ h1 h3) (ih h4)
theorem A5(ht:∀x y z,E x y→E y z→E x z)(hd:∀x y z,D x y→E y z→D x z){l l':List α}(h:Acc (LT D E) l)(he:oN E l' l):Acc (LT D E) l':=
 ⟨_,fun m hm=>h.inv (hm.shift ht hd he)⟩
theorem Fa(hr:∀x,E x x)(ht:∀x y z,E x y→E y z→E x z)(hd:∀x y z,D x y→E y z→D x z):∀l:List α,(∀x∈l,Acc D x)→Acc (LT D E) l
 |[],_=>⟨_,fun m hm=>by cases hm⟩
 |x::l,h=>by
  have hx:=h x (by simp);have hl:=Fa hr ht hd l fun y hy=>h y (by simp[hy]);clear h
  induction hx generalizing l with
  |intro x _ ihx=>
   induction hl with
   |intro l hl ihl=>
    refine⟨_,fun m hm=>?_⟩;have xK:Acc (LT D E) l:=⟨_,hl⟩
    cases hm with
    |drop h=>exact A5 ht hd xK h
    |head h1 h2=>exact ihx _ h1 _ (A5 ht hd xK h2)
    |tail h1 h2=>exact A5 ht hd (ihl _ h2) (.cons h1 (.refl hr _))
theorem oN.of_map{f:α→α}(h:∀x,E (f x) x):∀l:List α,oN E (l.map f) l
 |[]=>.nil
 |x::l=>.cons (h x) (oN.of_map h l)
theorem LT.mid{f:α→α}(h:∀x,E (f x) x){x x':α}(hd:D x' x)(l2:List α):∀l1:List α,LT D E (l1.map f++x'::l2.map f) (l1++x::l2)
 |[]=>.head hd (.of_map h l2)
 |y::l=>.tail (h y) (LT.mid h hd l2 l)
theorem LT.cut{f:α→α}(h:∀x,E (f x) x){x:α}(l2:List α):∀l1:List α,LT D E (l1.map f++l2.map f) (l1++x::l2)
 |[]=>.drop (.of_map h l2)
 |y::l=>.tail (h y) (LT.cut h l2 l)
end
section
variable(P:aI)(c0 c1:Nat)
def zS:Value:=.tuple #[]
def AtSend(c:Nat)(v:aj)(g:aB):Prop:=g.status=.running∧g.dying=none∧g.offers=none∧∀w,eP P false g w=.comm g #[nz c v zS] true .send w #[]
inductive gF(S:Nat→Prop)(p:aj):Bool→(Nat→Prop)→aB→ar→Prop
 |step {b:Bool} {O:Nat→Prop} {g:aB} {w:ar}:g.status=.running→g.dying=none→
   (∀w1,gY (fun c=>S c∨O c) w w1→∃g2 w2 es,eP P false g w1=.go g2 w2 es∧JA S O w1 w2 es∧g2.status=.running∧g2.dying=none)→
   (∀w1,gY (fun c=>S c∨O c) w w1→∀g2 w2 es,eP P false g w1=.go g2 w2 es→gF S p b (own O w1 w2) g2 w2)→gF S p b O g w
 |Bt {O:Nat→Prop} {g:aB} {w:ar}:AtSend P c0 p g→gF S p false O (eQ g af) w→gF S p true O g w
 |Bq {O:Nat→Prop} {g:aB} {w:ar} {n:Nat}:AtSend P c1 (.bool true) g→QuitsD P n 0 (eQ g af)→gF S p false O g w
theorem gF.rely{S:Nat→Prop}{p:aj}{b:Bool}{O:Nat→Prop}{g:aB}{w:ar}(h:gF P c0 c1 S p b O g w):∀ {w1:ar},gY (fun c=>S c∨O c) w w1→gF P c0 c1 S p b O g w1:=by
 induction h with
 |step a b c d _=>intro w1 hr;exact .step a b (fun w2 h2=>c w2 (hr.trans h2)) fun w2 h2=>d w2 (hr.trans h2)
 |Bt h _ ih=>intro w1 hr;exact .Bt h (ih hr)
 |Bq h hq=>intro w1 hr;exact .Bq h hq
theorem gF.CS{S:Nat→Prop}{p:aj}{b:Bool}{Stop:(Nat→Prop)→aB→ar→Prop}{O:Nat→Prop}{g:aB}{w:ar}(h:Walk P false S Stop O g w)(k:∀O g w,Stop O g w→gF P c0 c1 S p b O g w):gF P c0 c1 S p b O g w:=by
 induction h with
 |@stop O g w h=>exact k _ _ _ (h w (.refl _ _))
 |step a b c d ih=>exact .step a b c ih
structure X where
 id:Nat
 S:Nat→Prop
 p:aj
 b:Bool
 O:Nat→Prop
 g:aB
 w:ar
def X.at(w:ar)(x:X):X:={ x with w:=w }
inductive WS:X→Prop
 |run {x:X}:gF P c0 c1 x.S x.p x.b x.O x.g x.w→WS x
 |tZ {x:X} {g:aB}:x.b=true→AtSend P c0 x.p g→gF P c0 c1 x.S x.p false x.O (eQ g af) x.w→x.g=ie g #[nz c0 x.p zS] .send→WS x
 |tY {x:X} {g:aB} {n:Nat}:x.b=false→AtSend P c1 (.bool true) g→QuitsD P n 0 (eQ g af)→x.g=ie g #[nz c1 (.bool true) zS] .send→WS x
def Sh(x' x:X):Prop:=∃w,gY (fun c=>x.S c∨x.O c) x.w w∧x'=x.at w
inductive Dn:X→X→Prop
 |step {x x':X} {w1 w2:ar} {g2:aB} {es:Array fQ}:x.g.status=.running→gY (fun c=>x.S c∨x.O c) x.w w1→eP P false x.g w1=.go g2 w2 es→Sh x' { x with O:=own x.O w1 w2,g:=g2,w:=w2 }→Dn x' x
 |yL {x x':X} {c:Nat} {v:aj}:AtSend P c v x.g→Sh x' { x with g:=ie x.g #[nz c v zS] .send }→Dn x' x
 |sent {x x':X} {g:aB}:x.b=true→AtSend P c0 x.p g→(x.g=g∨x.g=ie g #[nz c0 x.p zS] .send)→Sh x' { x with b:=false,g:=eQ g af }→Dn x' x
theorem l7(x:X):Sh x x:=⟨x.w,.refl _ _,rfl⟩
theorem ox(x y z:X)(h:Sh x y)(h':Sh y z):Sh x z:=by
 obtain⟨w,hr,rfl⟩:=h;obtain⟨w',hr',rfl⟩:=h';exact⟨w,hr'.trans hr,rfl⟩
theorem EG(x y z:X)(h:Dn P c0 x y)(h':Sh y z):Dn P c0 x z:=by
 obtain⟨w,hr,rfl⟩:=h';cases h with
 |step h1 h2 h3 h4=>exact .step h1 (hr.trans h2) h3 h4
 |yL h1 h2=>
  obtain⟨w2,hr2,rfl⟩:=h2;exact .yL h1 ⟨w2,hr.trans hr2,rfl⟩
 |sent h1 h2 h3 h4=>
  obtain⟨w2,hr2,rfl⟩:=h4;exact .sent h1 h2 h3 ⟨w2,hr.trans hr2,rfl⟩
theorem Fb{x x':X}(h:Acc (Dn P c0) x)(he:Sh x' x):Acc (Dn P c0) x':=⟨_,fun y hy=>h.inv (EG P c0 _ _ _ hy he)⟩
theorem rK{c c':Nat}{v v':aj}{g:aB}{cs:Array mI}{sh:CommShape}(h:AtSend P c v (ie g cs sh)):False:=by cases h.1
theorem A4{S:Nat→Prop}{p:aj}{b:Bool}{O:Nat→Prop}{g:aB}{w:ar}(h:gF P c0 c1 S p b O g w)(id:Nat):Acc (Dn P c0) ⟨id,S,p,b,O,g,w⟩:=by
 induction h with
 |@step b O g w hr hd hc hk ih=>
  refine⟨_,fun y hy=>?_⟩;obtain⟨g2,w2,es,he,_⟩:=hc w (.refl _ _);cases hy with
  |step h1 h2 h3 h4=>exact Fb P c0 (ih _ h2 _ _ _ h3) h4
  |yL h1 h2=>have:=h1.2.2.2 w;dsimp only at this;rw[he] at this;cases this
  |sent h1 h2 h3 h4=>
   rcases h3 with h3|h3
   ·dsimp only at h3;subst h3;have:=h2.2.2.2 w;rw[he] at this;cases this
   ·dsimp only at h3;subst h3;cases hr
 |@Bt O g w ha _ ih=>
  have hp:Acc (Dn P c0) ⟨id,S,p,true,O,ie g #[nz c0 p zS] .send,w⟩:=by
   refine⟨_,fun y hy=>?_⟩;cases hy with
   |step h1 _ _ _=>cases h1
   |yL h1 _=>exact(rK P (c':=0) (v':=p) h1).elim
   |@sent _ _ g0 h1 h2 h3 h4=>
    rcases h3 with h3|h3
    ·dsimp only at h3;rw[←h3] at h2;exact(rK P (c':=0) (v':=p) h2).elim
    ·dsimp only at h3
     have e:g=g0:=by
      have e1:g.frame=g0.frame:=by have:=congrArg Goroutine.frame h3;exact this
      have e2:g.callers=g0.callers:=by have:=congrArg Goroutine.callers h3;exact this
      have e3:=ha.1;have e4:=h2.1;have e5:=ha.2.1;have e6:=h2.2.1;have e7:=ha.2.2.1;have e8:=h2.2.2.1;cases g;cases g0;simp_all
     subst e;exact Fb P c0 ih h4
  refine⟨_,fun y hy=>?_⟩;cases hy with
  |step h1 h2 h3 h4=>dsimp only at h3;rw[ha.2.2.2] at h3;cases h3
  |@yL _ _ c v h1 h2=>
   have e:=h1.2.2.2 w;dsimp only at e;rw[ha.2.2.2 w] at e;injection e with e1 e2
   have e3:nz c0 p zS=nz c v zS:=by injection e2 with e2;injection e2
   rw[←e3] at h2;exact Fb P c0 hp h2
  |sent h1 h2 h3 h4=>
   rcases h3 with h3|h3
   ·dsimp only at h3;subst h3;exact Fb P c0 ih h4
   ·dsimp only at h3;subst h3;cases ha.1
 |@Bq O g w n ha hq=>
  have hp:Acc (Dn P c0) ⟨id,S,p,false,O,ie g #[nz c1 (.bool true) zS] .send,w⟩:=by
   refine⟨_,fun y hy=>?_⟩;cases hy with
   |step h1 _ _ _=>cases h1
   |yL h1 _=>exact(rK P (c':=0) (v':=p) h1).elim
   |sent h1 _ _ _=>cases h1
  refine⟨_,fun y hy=>?_⟩;cases hy with
  |step h1 h2 h3 h4=>dsimp only at h3;rw[ha.2.2.2] at h3;cases h3
  |@yL _ _ c v h1 h2=>
   have e:=h1.2.2.2 w;dsimp only at e;rw[ha.2.2.2 w] at e;injection e with e1 e2
   have e3:nz c1 (.bool true) zS=nz c v zS:=by injection e2 with e2;injection e2
   rw[←e3] at h2;exact Fb P c0 hp h2
  |sent h1 _ _ _=>cases h1
end
section
variable(P:aI)(c0 c1:Nat)(z0 z1:aj)
def jL:Array CommCase:=#[rcase c0 z0,rcase c1 z1]
def Yq(g:aB):Prop:=g.status=.running∧g.dying=none∧g.offers=none∧∀w,eP P true g w=.comm g (jL c0 c1 z0 z1) true .select w #[]
def AtGo(g g' child:aB):Prop:=g.status=.running∧g.dying=none∧∀w,eP P true g w=.spawn g' child w #[]
def iu(g:aB)(k:Nat)(v:aj):Goroutine:=g.finishComm P (jL c0 c1 z0 z1) .select k v true
inductive eX(Fin:List aj→List aj→(Nat→Prop)→(Nat→Prop)→aB→ar→Prop):Nat→Nat→List aj→List aj→(Nat→Prop)→(Nat→Prop)→aB→ar→Prop
 |fin {acc out:List aj} {S O:Nat→Prop} {g:aB} {w:ar}:g.status=.running→(∀w1,gY (fun c=>S c∨O c) w w1→Fin acc out S O g w1)→eX Fin 0 0 acc out S O g w
 |step {f m:Nat} {acc out:List aj} {S O:Nat→Prop} {g:aB} {w:ar}:g.status=.running→g.dying=none→
   (∀w1,gY (fun c=>S c∨O c) w w1→∃g2 w2 es,eP P true g w1=.go g2 w2 es∧JA S O w1 w2 es∧g2.status=.running∧g2.dying=none)→
   (∀w1,gY (fun c=>S c∨O c) w w1→∀g2 w2 es,eP P true g w1=.go g2 w2 es→eX Fin f m acc out S (own O w1 w2) g2 w2)→eX Fin f m acc out S O g w
 |spawn {f m:Nat} {acc out:List aj} {S O Sk S' O':Nat→Prop} {g g' child:aB} {w:ar} {b:Bool} {p:aj}:AtGo P g g' child→g'.status=.running→child.status=.running→(∀c,Sk c→S c∨O c)→gF P c0 c1 Sk p b (fun _=>False) child w→
   (∀c,S' c→S c∨O c)→(∀c,O' c→O c∧¬Sk c∧¬S' c)→eX Fin (f+b.toNat) (m+1) (acc++if b then[p] else[]) out S' O' g' w→eX Fin f m acc out S O g w
 |select {f m:Nat} {acc out:List aj} {S O:Nat→Prop} {g:aB} {w:ar}:Yq P c0 c1 z0 z1 g→(∀v f',f=f'+1→v∈acc→eX Fin f' (m+1) acc (out++[v]) S O (iu P c0 c1 z0 z1 g 0 v) w)→
   (f≤m→eX Fin f m acc out S O (iu P c0 c1 z0 z1 g 1 (.bool true)) w)→eX Fin f (m+1) acc out S O g w
variable{P c0 c1 z0 z1}
theorem eX.rely{Fin:List aj→List aj→(Nat→Prop)→(Nat→Prop)→aB→ar→Prop}{f m:Nat}{acc out:List aj}{S O:Nat→Prop}{g:aB}{w:ar}(h:eX P c0 c1 z0 z1 Fin f m acc out S O g w) :
  ∀ {w1:ar},gY (fun c=>S c∨O c) w w1→eX P c0 c1 z0 z1 Fin f m acc out S O g w1:=by
 induction h with
 |fin hs h=>intro w1 hr;exact .fin hs fun w2 h2=>h w2 (hr.trans h2)
 |step a b c d _=>intro w1 hr;exact .step a b (fun w2 h2=>c w2 (hr.trans h2)) fun w2 h2=>d w2 (hr.trans h2)
 |spawn h1 h2 h2' h3 h4 h5 h6 _ ih=>
  intro w1 hr;exact .spawn h1 h2 h2' h3 (h4.rely _ _ _ ⟨hr.grow,fun c hc=>hr.keep c (h3 c (by simpa using hc))⟩) h5 h6 (ih ⟨hr.grow,fun c hc=>hr.keep c (hc.elim (h5 c) fun h=>.inr (h6 c h).1)⟩)
 |select h1 _ _ UW YZ=>intro w1 hr;exact .select h1 (fun v f' e hv=>UW v f' e hv hr) fun hf=>YZ hf hr
theorem eX.more{Fin:List aj→List aj→(Nat→Prop)→(Nat→Prop)→aB→ar→Prop}(hF:∀acc out S O O' g w,Fin acc out S O g w→(∀c,O c→O' c)→Fin acc out S O' g w){f m:Nat}{acc out:List aj}{S O:Nat→Prop}{g:aB}{w:ar}(h:eX P c0 c1 z0 z1 Fin f m acc out S O g w) :
  ∀ {O':Nat→Prop},(∀c,O c→O' c)→eX P c0 c1 z0 z1 Fin f m acc out S O' g w:=by
 have hrel:∀ {S O O':Nat→Prop} {w w1:ar},(∀c,O c→O' c)→gY (fun c=>S c∨O' c) w w1→gY (fun c=>S c∨O c) w w1:=fun ho hr=>⟨hr.grow,fun c hc=>hr.keep c (hc.imp id (ho c))⟩
 induction h with
 |fin hs h=>intro O' ho;exact .fin hs fun w1 hr=>hF _ _ _ _ _ _ _ (h w1 (hrel ho hr)) ho
 |step a b c d ih=>
  intro O' ho;refine .step a b (fun w1 hr=>?_) fun w1 hr g2 w2 es he=>?_
  ·obtain⟨g2,w2,es,e,hg,h1,h2⟩:=c w1 (hrel ho hr);exact⟨g2,w2,es,e,⟨hg.grow,fun c hc hn=>hg.keep c hc fun h=>hn (ho c h),hg.tape,hg.drawn,hg.os,hg.out,fun x hx=>(hg.evs x hx).mono (fun c hc=>hc.imp id fun h=>h.imp (ho c) id) fun c hc=>hc.imp (ho c) id⟩,h1,h2⟩
  ·exact ih w1 (hrel ho hr) g2 w2 es he fun c hc=>hc.imp (ho c) id
 |spawn h1 h2 h2' h3 h4 h5 h6 _ ih=>
  intro O' ho;exact .spawn h1 h2 h2' (fun c hc=>(h3 c hc).imp id (ho c)) h4 (fun c hc=>(h5 c hc).imp id (ho c)) (fun c hc=>⟨ho c (h6 c hc).1,(h6 c hc).2⟩) (by assumption)
 |select h1 _ _ UW YZ=>intro O' ho;exact .select h1 (fun v f' e hv=>UW v f' e hv ho) fun hf=>YZ hf ho
theorem eX.CS{Fin:List aj→List aj→(Nat→Prop)→(Nat→Prop)→aB→ar→Prop}{f m:Nat}{acc out:List aj}{S:Nat→Prop}{Stop:(Nat→Prop)→aB→ar→Prop}{O:Nat→Prop}{g:aB}{w:ar}(h:Walk P true S Stop O g w)
  (k:∀O g w,Stop O g w→eX P c0 c1 z0 z1 Fin f m acc out S O g w):eX P c0 c1 z0 z1 Fin f m acc out S O g w:=by
 induction h with
 |@stop O g w h=>exact k _ _ _ (h w (.refl _ _))
 |step a b c d ih=>exact .step a b c ih
end
structure Geo(c0 c1:Nat)(S0 O0:Nat→Prop)(L:List X)(n:Nat):Prop where
 IL:∀c,S0 c∨O0 c→c<n∧c≠c0∧c≠c1
 dj0:∀c,S0 c→¬O0 c
 lt:∀x∈L,∀c,x.S c∨x.O c→c<n∧c≠c0∧c≠c1
 dj:∀x∈L,∀c,x.S c→¬x.O c
 mw:∀x∈L,∀c,O0 c→¬x.S c∧¬x.O c
 wm:∀x∈L,∀c,x.O c→¬S0 c
 ww:∀x∈L,∀y∈L,x.id≠y.id→∀c,x.O c→¬y.S c∧¬y.O c
def SL(L:List X)(g c:Nat):Prop:=∃x∈L,x.id=g∧x.S c
def OL(L:List X)(g c:Nat):Prop:=∃x∈L,x.id=g∧x.O c
def act(L:List X)(g:Nat):Prop:=∃x∈L,x.id=g
def Chan(c:Nat)(w:ar):Prop:=∃s tm,w.heap[c]?=some (.chan 0 #[] false s s tm)
structure Inv(P:aI)(c0 c1:Nat)(S0 O0:Nat→Prop)(gm:aB)(L:List X)(gs:Array aB)(w:ar)(t:Trace)(q:Nat→Nat):Prop where
 zero:gs[0]?=some gm
 slot:∀x∈L,gs[x.id]?=some x.g∧0<x.id
 ws:∀x∈L,WS P c0 c1 x∧x.w=w
 nodup:(L.map X.id).Nodup
 old:∀i g,0<i→gs[i]?=some g→¬act L i→QuitsD P (q i) (Deaf t i) g
 above:∀j,gs.size≤j→Deaf t j=0
 pt:PT (act L) (SL L) (OL L) w.heap.size t
 geo:Geo c0 c1 S0 O0 L w.heap.size
 B9:Chan c0 w
 B8:Chan c1 w
 ne:c0≠c1
 wk0:∀g g' w',Chan c0 w'→Chan c1 w'→woken P g g' w' gm=gm
 st0:gm.status=.running∨gm.status=.blocked
section
variable{P:aI}{c0 c1:Nat}{S0 O0:Nat→Prop}{gm:aB}{L:List X}{gs:Array aB}{w:ar}{t:Trace}{q:Nat→Nat}
theorem PT.congr{A A':Nat→Prop}{S O S' O':Nat→Nat→Prop}{B:Nat}(h:PT A S O B t)(hA:∀g,A' g↔A g)(hS:∀g,A g→∀c,S' g c↔S g c)(hO:∀g,A g→∀c,O' g c↔O g c):PT A' S' O' B t:=by
 refine⟨h.clean,fun i a c ha hc=>(h.known i a c ha hc).imp id ?_,fun g hg i a c ha hc hs=>h.wk g ((hA g).1 hg) i a c ha hc ((hS g ((hA g).1 hg) c).1 hs),fun g hg i a c ha hc ho=>h.ow g ((hA g).1 hg) i a c ha hc ((hO g ((hA g).1 hg) c).1 ho),
  fun i g h1 h2 h3=>(h.over i g h1 h2 h3).imp id (hA g).2,h.hears,fun g hg=>h.tv g ((hA g).1 hg),h.seen,fun g hg=>h.pos g ((hA g).1 hg)⟩
 rintro⟨g,hg,h1,h2⟩;exact⟨g,(hA g).2 hg,h1,h2.imp (hO g hg c).2 fun h3=>⟨h3.1,(hS g hg c).2 h3.2⟩⟩
theorem gF.running{S:Nat→Prop}{p:aj}{b:Bool}{O:Nat→Prop}{g:aB}{w:ar}(h:gF P c0 c1 S p b O g w):g.status=.running:=by
 cases h with
 |step h _ _ _=>exact h
 |Bt h _=>exact h.1
 |Bq h _=>exact h.1
theorem WS.status{x:X}(h:WS P c0 c1 x):x.g.status=.running∨x.g.status=.blocked:=by
 cases h with
 |run h=>exact .inl h.running
 |tZ _ _ _ e=>right;rw[e];rfl
 |tY _ _ _ e=>right;rw[e];rfl
theorem WS.woken{x:X}(h:WS P c0 c1 x)(h0:Chan c0 w)(h1:Chan c1 w)(g g':aB):Conc.woken P g g' w x.g=x.g:=by
 obtain⟨s,tm,h0⟩:=h0;obtain⟨s',tm',h1⟩:=h1;cases h with
 |run h=>exact woken_run h.running
 |tZ _ _ _ e=>rw[e];exact woken_send_open _ _ h0
 |tY _ _ _ e=>rw[e];exact woken_send_open _ _ h1
theorem WS.rely{x:X}(h:WS P c0 c1 x){w':ar}(hr:gY (fun c=>x.S c∨x.O c) x.w w'):WS P c0 c1 (x.at w'):=by
 cases h with
 |run h=>exact .run (h.rely _ _ _ hr)
 |tZ h1 h2 h3 h4=>exact .tZ h1 h2 (h3.rely _ _ _ hr) h4
 |tY h1 h2 h3 h4=>exact .tY h1 h2 h3 h4
theorem Km{l:List X}(h:(l.map X.id).Nodup):∀x∈l,∀y∈l,x.id=y.id→x=y:=by
 induction l with
 |nil=>intro x hx;cases hx
 |cons a l ih=>
  simp only[List.map_cons,List.nodup_cons,cY,not_exists,not_and] at h;intro x hx y hy e;rcases bR.1 hx with rfl|hx'<;>rcases bR.1 hy with rfl|hy'
  ·rfl
  ·exact absurd e.symm (h.1 y hy')
  ·exact absurd e (h.1 x hx')
  ·exact ih h.2 x hx' y hy' e
theorem nN{l1 l2:List X}{x:X}(h:((l1++x::l2).map X.id).Nodup):∀y∈l1++l2,y.id≠x.id:=by
 simp only[List.map_append,List.map_cons,List.nodup_append,List.nodup_cons,cY,bR] at h;intro y hy e;rcases List.mem_append.1 hy with hy|hy
 ·exact h.2.2 _ ⟨y,hy,rfl⟩ x.id (.inl rfl) e
 ·exact h.2.1.1 ⟨y,hy,e⟩
theorem Inv.size(h:Inv P c0 c1 S0 O0 gm L gs w t q):0<gs.size:=(ak.1 h.zero).1
theorem Inv.woken(h:Inv P c0 c1 S0 O0 gm L gs w t q){w':ar}(h0:Chan c0 w')(h1:Chan c1 w')(g g':aB):gs.map (Conc.woken P g g' w')=gs:=by
 apply Array.ext_getElem?;intro i;rw[Array.getElem?_map];cases hi:gs[i]? with
 |none=>rfl
 |some y=>
  simp only[dI];rcases iO i with rfl|jJ
  ·rw[h.zero] at hi;cases hi;rw[h.wk0 g g' w' h0 h1]
  ·by_cases ha:act L i
   ·obtain⟨x,hx,rfl⟩:=ha;rw[(h.slot x hx).1] at hi;cases hi;rw[(h.ws x hx).1.woken h0 h1]
   ·rw[woken_quitsD (h.old i y jJ hi ha)]
theorem Inv.awake(h:Inv P c0 c1 S0 O0 gm L gs w t q):∀x∈gs,awake x:=by
 intro y hy;obtain⟨i,hi⟩:=Array.mem_iff_getElem?.1 hy;rcases iO i with rfl|jJ
 ·rw[h.zero] at hi;cases hi;exact awake_of (h.st0.imp id .inl)
 ·by_cases ha:act L i
  ·obtain⟨x,hx,rfl⟩:=ha;rw[(h.slot x hx).1] at hi;cases hi;exact awake_of ((h.ws x hx).1.status.imp id .inl)
  ·exact awake_of ((h.old i y jJ hi ha).status.elim .inl fun x=>.inr (.inr x))
theorem rY{K:Nat→Prop}{w w':ar}(h:w'.heap=w.heap):gY K w w':=⟨by rw[h];exact ax _,fun c _=>by rw[h]⟩
theorem nO{w':ar}{L:List X}{y:X}:y∈L.map (X.at w')↔∃x∈L,y=x.at w':=by
 simp only[cY];exact⟨fun⟨x,h1,h2⟩=>⟨x,h1,h2.symm⟩,fun⟨x,h1,h2⟩=>⟨x,h1,h2.symm⟩⟩
theorem Jt{w':ar}{g:Nat}:act (L.map (X.at w')) g↔act L g:=by
 constructor
 ·rintro⟨y,hy,rfl⟩;obtain⟨x,hx,rfl⟩:=nO.1 hy;exact⟨x,hx,rfl⟩
 ·rintro⟨x,hx,rfl⟩;exact⟨x.at w',nO.2 ⟨x,hx,rfl⟩,rfl⟩
theorem Yj{w':ar}{g c:Nat}:SL (L.map (X.at w')) g c↔SL L g c:=by
 constructor
 ·rintro⟨y,hy,rfl,hs⟩;obtain⟨x,hx,rfl⟩:=nO.1 hy;exact⟨x,hx,rfl,hs⟩
 ·rintro⟨x,hx,rfl,hs⟩;exact⟨x.at w',nO.2 ⟨x,hx,rfl⟩,rfl,hs⟩
theorem Yl{w':ar}{g c:Nat}:OL (L.map (X.at w')) g c↔OL L g c:=by
 constructor
 ·rintro⟨y,hy,rfl,hs⟩;obtain⟨x,hx,rfl⟩:=nO.1 hy;exact⟨x,hx,rfl,hs⟩
 ·rintro⟨x,hx,rfl,hs⟩;exact⟨x.at w',nO.2 ⟨x,hx,rfl⟩,rfl,hs⟩
theorem Geo.at{n:Nat}{w':ar}(h:Geo c0 c1 S0 O0 L n){n':Nat}(hn:n≤n'):Geo c0 c1 S0 O0 (L.map (X.at w')) n':=by
 have lift:∀ {Q:X→Prop},(∀x∈L,Q (x.at w'))→∀y∈L.map (X.at w'),Q y:=fun hq y hy=>by
  obtain⟨x,hx,rfl⟩:=nO.1 hy;exact hq x hx
 refine⟨fun c hc=>?_,h.dj0,lift fun x hx c hc=>?_,lift fun x hx c hc=>h.dj x hx c hc,lift fun x hx c hc=>h.mw x hx c hc,lift fun x hx c hc=>h.wm x hx c hc,lift fun x hx=>lift fun y hy he c hc=>h.ww x hx y hy he c hc⟩
 ·have:=h.IL c hc;exact⟨by omega,this.2⟩
 ·have:=h.lt x hx c hc;exact⟨by omega,this.2⟩
theorem Tb(L:List X)(w':ar):(L.map (X.at w')).map X.id=L.map X.id:=by
 rw[List.map_map];rfl
theorem Inv.draw(h:Inv P c0 c1 S0 O0 gm L gs w t q){w':ar}(hw:w'.heap=w.heap):Inv P c0 c1 S0 O0 gm (L.map (X.at w')) gs w' t q:=by
 have hlt:w'.heap.size=w.heap.size:=by rw[hw]
 refine⟨h.zero,fun y hy=>?_,fun y hy=>?_,by rw[Tb];exact h.nodup,fun i g hi hg ha=>h.old i g hi hg fun a=>ha (Jt.2 a),h.above,?_,?_,?_,?_,h.ne,h.wk0,h.st0⟩
 ·obtain⟨x,hx,rfl⟩:=nO.1 hy;exact h.slot x hx
 ·obtain⟨x,hx,rfl⟩:=nO.1 hy;refine⟨(h.ws x hx).1.rely ?_,rfl⟩;rw[(h.ws x hx).2];exact rY hw
 ·rw[hlt];exact h.pt.congr (fun g=>Jt) (fun g _ c=>Yj) fun g _ c=>Yl
 ·exact h.geo.at (by omega)
 ·obtain⟨s,tm,e⟩:=h.B9;exact⟨s,tm,by rw[hw];exact e⟩
 ·obtain⟨s,tm,e⟩:=h.B8;exact⟨s,tm,by rw[hw];exact e⟩
end
end Go.Lag
