/- TWO PROGRAMS IN STEP: literals, append, calls; the operations of a reg .. -/
import Derived.Test.YtffladgmkiimjaaGreatDoorW09
import Derived.Conc.CrowdTrace
import Derived.Conc.CrowdSel
set_option linter.all false
set_option maxHeartbeats 100000000
set_option maxRecDepth 1000000
open Array renaming getElem?_eq_getElem → aM,getElem?_eq_some_iff → ak,empty_append → eL,all_eq_true' → jY,mapM_eq_mapM_toList → oN,toList_map → vw
open Bool renaming and_eq_true → aC,false_eq_true → bu
open Go renaming Goroutine → aB,Program → aI,TypeId → aX,undef → af,Value → aj,World → ar,Operand → bE,Frame → bL,execOp → bX,FuncId → dR,stepG → eM,runtimePanic → ej,Event → fP,Sem → gZ,zeroValue → iD,underlying → iG,CallKind → jy,unwind → lD,typeInfo → lF,CommCase → mD,Item → oJ,unsupported → qC,doReturn → tL,partners → wA,choose → zJ
open Go.Builtin renaming firstCells → eJ,zeroCells → fE,append_ → j6,mayShare → pD
open Go.Conc renaming served → eN,getElem?_append_cases → gR,parked → ia,solo_eq_crowd → m9,scase → nj
open Go.Frame renaming enter → dZ
open Go.GStep renaming after → A4
open Go.MemOp renaming ofEvents → ic
open Go.stepG renaming exec → bW,apply → dX,oper → eI
open List renaming mem_cons → bR,length_pos_iff → cX,getElem_mem → cu,mem_map → dc,mem_toArray → eF,not_mem_nil → gh,cons_append → ie
open Nat renaming le_trans → aN,le_refl → ax,eq_zero_or_pos → iJ,add_sub_cancel_left → rL
open Option renaming map_some → dH,map_eq_some_iff → eu,bind_some → gg
open Option.some renaming injEq → gq
open Pure renaming pure → eE
namespace Go.Lag
open Go.Conc
section
variable{P:aI}{F:Nat→Bool}{α β γ δ:Type}{A:Rn→α→β→Prop}{A':Rn→γ→δ→Prop}{ρ:Rn}
inductive PL(F:Nat→Bool)(ρ:Rn):List (Nat × aj)→List (Nat × aj)→Prop
 |nil:PL F ρ [] []
 |cons {i:Nat} {x y:aj} {l m:List (Nat × aj)}:VR F ρ x y→PL F ρ l m→PL F ρ ((i,x)::l) ((i,y)::m)
theorem KL{off:Nat}{l m:List aj}(h:Q6 F ρ l m):∀(j:Nat) {cs cs':Array aj},iu F ρ cs cs'→
  iu F ρ ((l.zipIdx j).foldl (fun cs (c,j)=>cs.setIfInBounds (off+j) c) cs) ((m.zipIdx j).foldl (fun cs (c,j)=>cs.setIfInBounds (off+j) c) cs'):=by
 induction h with
 |nil=>intro j cs cs' hc;exact hc
 |cons hx _ ih=>intro j cs cs' hc;simp only[List.zipIdx_cons,List.foldl_cons];exact ih (j+1) (hc.set hx _)
theorem M6{place:Nat→Option (Nat × Nat)}{l m:List (Nat × aj)}(h:PL F ρ l m):∀ {cs cs':Array aj},iu F ρ cs cs'→
  (Instr.fill place cs l=none∧Instr.fill place cs' m=none)∨∃x y,Instr.fill place cs l=some x∧Instr.fill place cs' m=some y∧iu F ρ x y:=by
 induction h with
 |nil=>intro cs cs' hc;exact .inr ⟨cs,cs',rfl,rfl,hc⟩
 |@cons i x y l m hx _ ih=>
  intro cs cs' hc;simp only[Instr.fill];cases place i with
  |none=>exact .inl ⟨rfl,rfl⟩
  |some p=>
   obtain⟨off,size⟩:=p;simp only[←hx.cells.size,←hc.size];split
   ·exact .inl ⟨rfl,rfl⟩
   ·have:=KL (off:=off) hx.cells.list 0 hc;refine ih ?_;simpa only[←Array.foldl_toList,Array.toList_zipIdx] using this
theorem Da{ι κ:Type}{f:ι→gZ κ}(hf:∀a,bP P F (Same ρ fun _=>True) ρ (f a) (f a))(l:Array ι):bP P F (Same ρ fun _=>True) ρ (l.mapM f) (l.mapM f):=by
 rw[oN]
 have:∀l:List ι,bP P F (Same ρ fun _=>True) ρ (l.mapM f) (l.mapM f):=by
  intro l;rw[←List.mapM'_eq_mapM]
  induction l with
  |nil=>exact cI
  |cons a l ih=>exact(hf a).bD fun _ _=>ih.bD fun _ _=>cI
 exact(this l.toList).bD fun _ _=>cI
theorem Mb{t:aX}(ht:nZ P t=true){l m:Array (Nat × aj)}(h:PL F ρ l.toList m.toList):bP P F (At ρ (VR F ρ)) ρ (Instr.build t l) (Instr.build t m):=by
 unfold Instr.build;refine(kP ht).dB fun z z' hz=>?_;dsimp only;refine dh.bD fun ds _=>?_;cases ds with
 |struct fs=>
  refine(Da (fun f=>gu.bD fun n _=>cI) fs).bD fun places _=>?_;rcases M6 (place:=(places[·]?)) h hz.cells with⟨h1,h2⟩|⟨x,y,h1,h2,h3⟩
  ·simp only[h1];exact a7
  ·simp only[h1,h2];exact .dn h3.agg
 |array n e=>
  refine gu.bD fun n _=>?_;rcases M6 (place:=fun i=>some (i*n,n)) h hz.cells with⟨h1,h2⟩|⟨x,y,h1,h2,h3⟩
  ·simp only[h1];exact a7
  ·simp only[h1,h2];exact .dn h3.agg
 |_=>exact a7
def yK(P:aI)(t:aX):Bool:=match P.underlying t with|some (.slice e)=>nZ P e|_=>true
theorem TN:VR F ρ (default:aj) (default:aj):=za (by rfl)
theorem iu.agj{a a':Array aj}(h:iu F ρ a a')(i:Nat):VR F ρ a[i]! a'[i]!:=by
 rw[Array.getElem!_eq_getD,Array.getElem!_eq_getD];exact h.getD TN i
theorem G3{a a':Array aj}(h:iu F ρ a a')(n:Nat):iu F ρ ((Array.range n).map (a[· % a.size]!)) ((Array.range n).map (a'[· % a'.size]!)):=by
 refine iu.map fun i _=>?_;rw[←h.size];exact h.agj _
theorem Ca{t:aX}(ht:yK P t=true){n:Nat}{l m:Array (Nat × aj)}(h:PL F ρ l.toList m.toList):bP P F (VR F) ρ (Instr.buildSlice t n l) (Instr.buildSlice t n m):=by
 unfold Instr.buildSlice;refine dh.bD fun ds Kw=>?_;cases ds<;>first|exact a7|skip
 rename_i e;simp only[yK,Kw] at ht;refine gu.bD fun size _=>?_;dsimp only;split
 ·exact .dead ((eR (by simp)).bind _)
 ·have rest:∀ {z z':Array aj},iu F ρ z z'→bP P F (VR F) ρ
    (do
      let some cells:=Instr.fill (fun i=>some (i*size,size)) ((Array.range (n*size)).map (z[· % z.size]!)) l.toList|stuck "buildSlice: a part of the wrong size"
      pure (.slice (some (←newRow e cells)) n n))
    (do
      let some cells:=Instr.fill (fun i=>some (i*size,size)) ((Array.range (n*size)).map (z'[· % z'.size]!)) m.toList|stuck "buildSlice: a part of the wrong size"
      pure (.slice (some (←newRow e cells)) n n)):=by
   intro z z' hz;rcases M6 (place:=fun i=>some (i*size,size)) h (G3 hz (n*size)) with⟨h1,h2⟩|⟨x,y,h1,h2,h3⟩
   ·simp only[h1];exact a7
   ·simp only[h1,h2];exact bP.bind (uH h3) fun ρ' a a' _ ha=>.pure (.slice _ _ ha)
  split
  ·exact rest .nil
  ·exact(kP ht).dB fun v v' hv=>rest hv.cells
def Sg(P:aI)(ts:Array aX):Bool:=match ts[0]? with|some t=>(match P.underlying t with|some (.slice _)|some (.array ..)|some .string=>true|_=>false)|none=>true
theorem RH{ts:Array aX}(ht:Sg P ts=true){t:aX}{l m:Array aj}(h:iu F ρ l m):bP P F (At ρ (VR F ρ)) ρ (Builtin.len_ ts t l) (Builtin.len_ ts t m):=by
 unfold Builtin.len_;unfold Sg at ht;cases hx:l[0]? with
 |none=>cases ts[0]?<;>exact a7
 |some x=>
  obtain⟨y,hy,hv⟩:=h.get hx;rw[hy];cases h0:ts[0]? with
  |none=>exact a7
  |some t0=>
   rw[h0] at ht;dsimp only at ht ⊢;refine dh.bD fun ds Kw=>?_;rw[Kw] at ht;cases ds<;>first|(cases ht;done)|skip
   all_goals (cases hv<;>first|exact a7|exact .dn (VR.int _ _))
theorem Pv{x x' y y':aj}(hx:VR F ρ x x')(hy:VR F ρ y y'):bP P F (At ρ (VR F ρ)) ρ (Builtin.max2 x y) (Builtin.max2 x' y'):=by
 cases hx<;>cases hy<;>first
  |exact a7
  |exact cg (by simp)
  |exact .dn (.int _ _)
  |exact .dn (.string _)
theorem Pu{x x' y y':aj}(hx:VR F ρ x x')(hy:VR F ρ y y'):bP P F (At ρ (VR F ρ)) ρ (Builtin.min2 x y) (Builtin.min2 x' y'):=by
 cases hx<;>cases hy<;>first
  |exact a7
  |exact cg (by simp)
  |exact .dn (.int _ _)
  |exact .dn (.string _)
theorem Bl{f:aj→aj→gZ aj}(hf:∀ {x x' y y'},VR F ρ x x'→VR F ρ y y'→bP P F (At ρ (VR F ρ)) ρ (f x y) (f x' y')){l m:List aj}(h:Q6 F ρ l m) :
  ∀ {x x':aj},VR F ρ x x'→bP P F (At ρ (VR F ρ)) ρ (l.foldlM f x) (m.foldlM f x'):=by
 induction h with
 |nil=>intro x x' hx;exact .dn hx
 |cons hy _ ih=>intro x x' hx;simp only[List.foldlM_cons];exact(hf hx hy).dB fun z z' hz=>ih hz
theorem RG{ts:Array aX}{t:aX}{l m:Array aj}(h:iu F ρ l m):bP P F (At ρ (VR F ρ)) ρ (Builtin.max_ ts t l) (Builtin.max_ ts t m):=by
 unfold Builtin.max_;have hl:=h.list;generalize l.toList=l' at hl ⊢;generalize m.toList=m' at hl ⊢;cases hl with
 |nil=>exact a7
 |cons hx hl=>exact Bl Pv hl hx
theorem RF{ts:Array aX}{t:aX}{l m:Array aj}(h:iu F ρ l m):bP P F (At ρ (VR F ρ)) ρ (Builtin.min_ ts t l) (Builtin.min_ ts t m):=by
 unfold Builtin.min_;have hl:=h.list;generalize l.toList=l' at hl ⊢;generalize m.toList=m' at hl ⊢;cases hl with
 |nil=>exact a7
 |cons hx hl=>exact Bl Pu hl hx
end
section
variable{P:aI}{F:Nat→Bool}{α β γ δ:Type}{A:Rn→α→β→Prop}{A':Rn→γ→δ→Prop}{ρ:Rn}
def nQ(P:aI)(s:gZ α):Prop:=∀w es,(∃a w' es',s.runT P w es=(.ok a w',es'))∨∃h w' es',s.runT P w es=(.halt h w',es')∧E3 h
theorem nQ.Eo{s:gZ α}{f:α→gZ γ}(h:nQ P s)(hf:∀a,qu P (f a)):qu P (s >>= f):=fun w es=>by
 show ∃h w' es',(s.bind f).runT P w es=_∧_;rw[Sem.runT_bind'];rcases h w es with⟨a,w',es',h1⟩|⟨e,w',es',h1,h2⟩
 ·rw[h1];exact hf a w' es'
 ·rw[h1];exact⟨e,w',es',rfl,h2⟩
theorem nQ.bind{s:gZ α}{f:α→gZ γ}(h:nQ P s)(hf:∀a,nQ P (f a)):nQ P (s >>= f):=fun w es=>by
 show(∃a w' es',(s.bind f).runT P w es=_)∨∃h w' es',(s.bind f).runT P w es=_∧_;rw[Sem.runT_bind'];rcases h w es with⟨a,w',es',h1⟩|⟨e,w',es',h1,h2⟩
 ·rw[h1];exact hf a w' es'
 ·rw[h1];exact .inr ⟨e,w',es',rfl,h2⟩
theorem mK{a:α}:nQ P (eE a:gZ α):=fun w es=>.inl ⟨a,w,es,rfl⟩
theorem I3{r:Nat}:nQ P (shape r):=fun w es=>.inl ⟨_,w,es,rfl⟩
theorem FM{a:Addr}:nQ P (frozen a):=fun w es=>.inl ⟨_,w,es,rfl⟩
theorem zr{a:Addr}{n:Nat}:nQ P (Builtin.holdsCells a n):=by
 unfold Builtin.holdsCells;refine I3.bind fun s=>?_;cases s<;>exact mK
theorem Cl{size oQ n:Nat}{b:Option Addr}{x:aj}:nQ P (pD size oQ n b x):=by
 unfold pD
 have rest:∀there:Bool,nQ P (if (!there)=true then(pure true:gZ Bool) else match x with
   |.slice (some c) _ _=>do pure (!(←Builtin.holdsCells c (n*size))||b.any (·.block==c.block))
   |_=>pure false):=by
  intro there;split
  ·exact mK
  ·split
   ·exact zr.bind fun _=>mK
   ·exact mK
 cases b with
 |none=>exact mK.bind rest
 |some a=>exact zr.bind fun _=>FM.bind fun _=>mK.bind rest
theorem L8{x x':aj}(h:VR F ρ x x'):bP P F (Same ρ fun _=>True) ρ (Builtin.lenOf x) (Builtin.lenOf x'):=by
 cases h<;>first|exact a7|exact cI
theorem oP{x x':aj}(h:VR F ρ x x')(size n:Nat):bP P F (At ρ (iu F ρ)) ρ (eJ size n x) (eJ size n x'):=by
 cases h<;>first|exact a7|exact .dn .nil|exact uI ‹_› _|exact .dn (iu.map fun _ _=>.int _ _)
theorem Jr{z z':Array aj}(h:iu F ρ z z')(n:Nat):iu F ρ (fE z n) (fE z' n):=by
 unfold fE;rw[←h.size];have:=G3 h (n*z.size);rw[←h.size] at this;exact this
theorem Hm{n:Nat}:bP P F (At ρ fun _ _=>True) ρ (askRoom n) (askRoom n):=by
 unfold askRoom;split
 ·exact .noRoom (.dn trivial)
 ·exact .dn trivial
def okZ(P:aI)(t?:Option aX):Bool:=match t? with|some t=>(match P.underlying t with|some (.int _)=>false|_=>true)|none=>true
def Si(P:aI)(ts:Array aX):Bool:=
 (match ts[0]? with|some t=>yK P t|none=>true)&&okZ P ts[1]?
theorem LZ{t?:Option aX}(ht:okZ P t?=true){J J':Bool→gZ aj}(h:bP P F (VR F) ρ (J false) (J' false)) :
  bP P F (VR F) ρ (match (generalizing:=false) t? with|some t=>iG t >>= fun d=>(eE (match d with|.int _=>true|_=>false):gZ Bool) >>= J|none=>(eE false:gZ Bool) >>= J)
   (match (generalizing:=false) t? with|some t=>iG t >>= fun d=>(eE (match d with|.int _=>true|_=>false):gZ Bool) >>= J'|none=>(eE false:gZ Bool) >>= J'):=by
 cases t? with
 |none=>exact h
 |some t1=>
  refine dh.bD fun d1 hd1=>?_;simp only[okZ,hd1] at ht;cases d1<;>first|(cases ht;done)|exact h
theorem JU{ts:Array aX}(ht:Si P ts=true){t:aX}{l m:Array aj}(h:iu F ρ l m):bP P F (VR F) ρ (j6 ts t l) (j6 ts t m):=by
 unfold j6;simp only[Si,aC] at ht;obtain⟨Iw,rI⟩:=ht;cases hx:l[0]? with
 |none=>cases ts[0]?<;>exact a7
 |some s=>
  obtain⟨s',hs',hsv⟩:=h.get hx;rw[hs'];cases h0:ts[0]? with
  |none=>exact a7
  |some t0=>
   cases hx1:l[1]? with
   |none=>exact a7
   |some x=>
    obtain⟨x',hx',hxv⟩:=h.get hx1;rw[hx'];rw[h0] at Iw;simp only at Iw;dsimp only;refine dh.bD fun ds Kw=>?_;cases ds<;>first|exact a7|skip
    rename_i e;simp only[yK,Kw] at Iw;dsimp only
    have main:∀ {b b':Option Addr} (sl sc:Nat),VR F ρ (.slice b sl sc) (.slice b' sl sc)→bP P F (VR F) ρ
      (do
        let size ←sizeOf e
        let zeros ←match ts[1]? with
         |some xType=>do pure ((←iG xType) matches .int _)
         |none=>pure false
        let n ←if zeros then do
          let l:=IntKind.i64.wrap (←asInt x)
          if l<0 then ej (.error "makeslice: len out of range")
          if l*(←lF e).bytes>2 ^ 48 then
           let made ←zJ (.extern "append.ofMake.carriedOut" 2)
           ej (.error (if made==1 then "makeslice: len out of range" else "growslice: len out of range"))
          pure l.toNat
         else Builtin.lenOf x
        let appended:gZ (Array aj):=
         if !zeros then eJ size n x
         else if n*size=0 then pure #[]
         else do pure (fE (←iD e).cells n)
        let need:=sl+n
        if need≤sc then
         let new ←appended
         if let some a:=b then storeCells (a.add (sl*size)) new.toList
         pure (.slice b need sc)
        else
         if (need:Int)>IntKind.i64.max∧(zeros∨(←lF e).bytes=0) then ej (.error "growslice: len out of range")
         if Builtin.nextslicecap need sc*(←lF e).bytes>2 ^ 48 then(if zeros then ej (.error "growslice: len out of range") else do
          if !(←pD size sl n b x) then mark .noRoom
          qC (.resourceLimit "append: a slice or a string whose bytes no memory bears"))
         let l6 ←zJ (.appendCap need sc e)
         askRoom (l6*(←lF e).bytes)
         let old ←eJ size sl (.slice b sl sc);let new ←appended;let rest:=fE (←iD e).cells (l6-need)
         pure (.slice (some (←newRow e (old++new++rest))) need l6))
      (do
        let size ←sizeOf e
        let zeros ←match ts[1]? with
         |some xType=>do pure ((←iG xType) matches .int _)
         |none=>pure false
        let n ←if zeros then do
          let l:=IntKind.i64.wrap (←asInt x')
          if l<0 then ej (.error "makeslice: len out of range")
          if l*(←lF e).bytes>2 ^ 48 then
           let made ←zJ (.extern "append.ofMake.carriedOut" 2)
           ej (.error (if made==1 then "makeslice: len out of range" else "growslice: len out of range"))
          pure l.toNat
         else Builtin.lenOf x'
        let appended:gZ (Array aj):=
         if !zeros then eJ size n x'
         else if n*size=0 then pure #[]
         else do pure (fE (←iD e).cells n)
        let need:=sl+n
        if need≤sc then
         let new ←appended
         if let some a:=b' then storeCells (a.add (sl*size)) new.toList
         pure (.slice b' need sc)
        else
         if (need:Int)>IntKind.i64.max∧(zeros∨(←lF e).bytes=0) then ej (.error "growslice: len out of range")
         if Builtin.nextslicecap need sc*(←lF e).bytes>2 ^ 48 then(if zeros then ej (.error "growslice: len out of range") else do
          if !(←pD size sl n b' x') then mark .noRoom
          qC (.resourceLimit "append: a slice or a string whose bytes no memory bears"))
         let l6 ←zJ (.appendCap need sc e)
         askRoom (l6*(←lF e).bytes)
         let old ←eJ size sl (.slice b' sl sc);let new ←appended;let rest:=fE (←iD e).cells (l6-need)
         pure (.slice (some (←newRow e (old++new++rest))) need l6)):=by
     intro b b' sl sc hb;refine gu.bD fun size _=>?_;refine LZ rI ?_;simp only[bu,if_false,false_or,Bool.not_false,if_true];refine(L8 hxv).bD fun n _=>?_;split
     ·refine(oP hxv size n).dB fun new aeH hn=>?_;cases hb with
      |DJ=>exact .pure (.DJ _ _)
      |slice _ _ ha=>exact(tR (ha.add _) hn.list 0).dB fun _ _ _=>.pure (.slice _ _ ha)
     ·refine jn.bD fun i _=>?_;split
      ·exact .dead ((oZ (by simp) (by simp)).bind _)
      ·refine jn.bD fun i _=>?_;split
       ·refine .dead ?_;refine qu.bind (Cl.Eo fun a=>?_) _;cases a
        ·exact nQ.Eo (s:=mark .noRoom) (fun w es=>.inl ⟨(),w,_,rfl⟩) fun _=>eR (by simp)
        ·exact eR (by simp)
       ·refine uK.bD fun cap _=>jn.bD fun i _=>Hm.dB fun _ _ _=>?_;refine(oP hb size sl).dB fun old akk ho=>(oP hxv size n).dB fun new aeH hn=>?_;refine(kP Iw).dB fun z z' hz=>?_;exact bP.bind (uH ((ho.append hn).append (Jr hz.cells _))) fun ρ' a a' _ ha=>.pure (.slice _ _ ha)
    cases hsv with
    |DJ sl sc=>exact main sl sc (.DJ _ _)
    |slice sl sc ha=>exact main sl sc (.slice _ _ ha)
    |_=>exact a7
inductive NR(F:Nat→Bool)(ρ:Rn):Next→Next→Prop
 |value {v v':aj}:VR F ρ v v'→NR F ρ (.value v) (.value v')
 |skip:NR F ρ .skip .skip
 |enter {f:dR} {l m:Array aj}:F f=true→iu F ρ l m→NR F ρ (.enter f l) (.enter f m)
 |send {ch v:aj} {n:Next}:NR F ρ (.comm #[{ chan:=ch,send:=some v,zero:=.tuple #[] }] true .send) n
theorem nD{s s':gZ aj}(h:bP P F (VR F) ρ s s'):bP P F (NR F) ρ (do pure (.value (←s))) (do pure (.value (←s'))):=h.bind fun ρ' v v' _ hv=>.pure (.value hv)
theorem gO{s s':gZ aj}(h:bP P F (At ρ (VR F ρ)) ρ s s'):bP P F (NR F) ρ (do pure (.value (←s))) (do pure (.value (←s'))):=h.dB fun v v' hv=>.pure (.value hv)
theorem Bg{s s':gZ Unit}(h:bP P F (At ρ fun _ _=>True) ρ s s'):bP P F (NR F) ρ (do s;pure .skip) (do s';pure .skip):=h.dB fun _ _ _=>.pure .skip
def Ur(P:aI)(F:Nat→Bool):Prop:=∀f,F f=true→∃fn,P.funcs[f]?=some fn∧fn.body.isSome=true∧(fn.name == "runtime.NumGoroutine")=false
theorem Fl(hF:Ur P F){f:dR}(hf:F f=true){l m:Array aj}(h:iu F ρ l m):bP P F (NR F) ρ (callFunc f l) (callFunc f m):=by
 obtain⟨fn,h1,h2,h3⟩:=hF f hf;unfold callFunc;refine j8 ?_;have h4:fn.body.isNone=false:=by cases hb:fn.body<;>simp_all
 simp only[h1,h3,h4,bu,if_false];exact .pure (.enter hf h)
def zZ(F:Nat→Bool):bE→Bool
 |.tmp _=>true
 |.const v=>Ej v
 |.global _=>false
 |.func f=>F f
def okB(P:aI)(ts:Array aX):Builtin→Bool
 |.append=>Si P ts
 |.len=>Sg P ts
 |.max|.min=>true
 |_=>false
def isInt:bE→Bool
 |.const (.int _ _)=>true
 |_=>false
def abO(P:aI)(t:aX):Bool:=P.underlying t matches some (.int _)
def Vf(P:aI)(F:Nat→Bool)(op:Op):Bool:=op.operands.all (zZ F)&&match op with
 |.move _|.assign _|.pick ..|.box ..|.load ..|.store ..|.indexAddr ..|.index ..|.extract ..|.send ..=>true
 |.alloc e=>nZ P e
 |.build t _=>nZ P t
 |.buildSlice t _ _=>yK P t
 |.binOp op t _ y _=>abO P t&&(W9 op||((op matches .eql | .neq)&&isInt y))
 |.makeFunc (.func f) _ _=>F f
 |.makeMap _ none=>true
 |.fieldAddr s _ f=>HV P s f
 |.lookup t _ _ _=>Sd P t
 |.mapUpdate t _ _ _=>Mw P t
 |.call c=>(match c.callee with|.builtin b=>okB P c.argTypes b|.value _=>true|.invoke ..=>false)
 |_=>false
theorem jZ{fr fr':bL}(h:iu F ρ fr.tmps fr'.tmps){x:bE}(hx:zZ F x=true):VR F ρ (fr.eval x) (fr'.eval x):=by
 cases x with
 |tmp t=>exact h.getD sM t
 |const v=>exact za hx
 |global g=>cases hx
 |func f=>exact .func hx rfl (fun i x y h=>by simp at h) rfl (fun i x y h=>by simp at h)
theorem Yp{fr fr':bL}(h:iu F ρ fr.tmps fr'.tmps){l:Array bE}(hl:l.all (zZ F)=true):iu F ρ (l.map fr.eval) (l.map fr'.eval):=
 iu.map fun x hx=>jZ h (jY.1 hl x hx)
theorem Mu{fr fr':bL}(h:iu F ρ fr.tmps fr'.tmps):∀ {l:List (Nat × bE)},(l.all fun p=>zZ F p.2)=true→
  PL F ρ (l.map fun(i,x)=>(i,fr.eval x)) (l.map fun(i,x)=>(i,fr'.eval x))
 |[],_=>.nil
 |(i,x)::l,hl=>by
  simp only[List.all_cons,aC] at hl;exact .cons (jZ h hl.1) (Mu h hl.2)
theorem JQ(hF:Ur P F)(R:Ua P ρ){fr fr':bL}(h:iu F ρ fr.tmps fr'.tmps){o:Oper}(ho:Vf P F o.op=true):bP P F (NR F) ρ (bX fr.eval o) (bX fr'.eval o):=by
 unfold Vf at ho;rw[aC] at ho;obtain⟨h1,h2⟩:=ho;unfold bX;obtain⟨dst,op,type,pos,after,guard⟩:=o;dsimp only at h1 h2 ⊢;cases op<;>first|(cases h2;done)|skip
 all_goals simp only[Op.operands,List.all_toArray,List.all_cons,List.all_nil,Bool.and_true,aC] at h1
 case move x=>exact .pure (.value (jZ h h1))
 case assign x=>exact .pure (.value (jZ h h1))
 case pick c a b=>
  refine bP.bD (C:=fun _=>True) (s:=asBool (fr.eval c)) (s':=asBool (fr'.eval c)) ?_ fun t _=>?_
  ·have hc:=jZ h h1.1;revert hc;generalize fr.eval c=v;generalize fr'.eval c=v';intro hc;cases hc<;>first|exact a7|exact cI
  ·cases t
   ·exact bP.pure (NR.value (jZ h h1.2.2))
   ·exact bP.pure (NR.value (jZ h h1.2.1))
 case alloc e=>exact nD (Me h2)
 case box e x=>exact nD (RI (jZ h h1))
 case build t ps=>
  refine gO (Mb h2 ?_);simp only[vw];exact Mu h (by simpa [List.all_map,Function.comp_def] using h1)
 case buildSlice t n ps=>
  refine nD (Ca h2 ?_);simp only[vw];exact Mu h (by simpa [List.all_map,Function.comp_def] using h1)
 case load t a=>exact gO (JN (jZ h h1))
 case store t a v=>exact Bg (Hf (jZ h h1.1) (jZ h h1.2))
 case binOp op t x y yt=>
  simp only[aC,Bool.or_eq_true] at h2;have hx:=jZ h h1.1;have hy:=jZ h h1.2
  have ht:∃k,P.underlying t=some (.int k):=by
   have:=h2.1;unfold abO at this;split at this
   ·exact⟨_,‹_›⟩
   ·cases this
  obtain⟨k,ht⟩:=ht;refine nD ?_;rcases h2.2 with hop|⟨hop,hint⟩
  ·have e:∀a b,eqGuard op t x y a b=eE ():=fun a b=>by cases op<;>first|rfl|cases hop
   rw[e,e];exact Mc R ht hop hx hy
  ·have hyi:∃k n,y=.const (.int k n):=by
    unfold isInt at hint;split at hint
    ·exact⟨_,_,rfl⟩
    ·cases hint
   obtain⟨ky,ny,rfl⟩:=hyi;have hy1:fr.eval (.const (.int ky ny))=.int ky ny:=rfl;have hy2:fr'.eval (.const (.int ky ny))=.int ky ny:=rfl;rw[hy1,hy2] at *
   have e:∀a,eqGuard op t x (.const (.int ky ny)) a (.int ky ny)=eE ():=fun a=>by
    have YK:op=.eql∨op=.neq:=by cases op<;>first|exact .inl rfl|exact .inr rfl|cases hop
    rcases YK with rfl|rfl<;>cases a<;>rfl
   rw[e,e];show bP P F (VR F) ρ (binOp op t (fr.eval x) (.int ky ny)) (binOp op t (fr'.eval x) (.int ky ny));generalize fr.eval x=v at hx ⊢;generalize fr'.eval x=v' at hx ⊢;have hpl:oU P 1 t=true:=by simp only[oU,ht]
   have heq:=pg R 1 Op.maxDepth t hpl v v' _ _ hx (.int (F:=F) (ρ:=ρ) ky ny);have YK:op=.eql∨op=.neq:=by cases op<;>first|exact .inl rfl|exact .inr rfl|cases hop
   rcases YK with rfl|rfl
   ·cases hx<;>first
     |exact uJ
     |exact heq.bD fun b _=>.pure (.bool _)
   ·cases hx<;>first
     |exact uJ
     |exact heq.bD fun b _=>.pure (.bool _)
 case makeFunc fn fs cs=>
  cases fn<;>first|(cases h2;done)|skip
  rename_i f;simp only[Array.all_append,aC] at h1;have e1:=Yp h h1.1;have e2:=Yp h h1.2;exact .pure (NR.value (.func h2 e1.size e1.at_ e2.size e2.at_))
 case makeMap t r=>
  cases r<;>first|(cases h2;done)|skip
  exact nD Hh
 case fieldAddr s x f=>exact gO (Hk h2 (jZ h h1))
 case indexAddr t x i=>exact gO (Hj (jZ h h1.1) (jZ h h1.2))
 case index t x i=>exact gO (Ma (jZ h h1.1) (jZ h h1.2))
 case lookup t x i ok=>exact gO (JM R h2 (jZ h h1.1) (jZ h h1.2) ok)
 case mapUpdate t m k v=>exact Bg (C9 R h2 (jZ h h1.1) (jZ h h1.2.1) (jZ h h1.2.2))
 case send ch x=>exact bP.pure NR.send
 case extract x i=>exact gO (Hl (jZ h h1) i)
 case call c=>
  obtain⟨callee,args,ats⟩:=c;simp only[Call.operands,Array.all_append,aC] at h1;have ha:=Yp h h1.2;dsimp only at h2;cases callee<;>first|(cases h2;done)|skip
  case builtin b=>
   cases b<;>first|(cases h2;done)|skip
   ·exact nD (JU h2 ha)
   ·exact gO (RH h2 ha)
   ·exact gO (RG ha)
   ·exact gO (RF ha)
  case value f=>
   have hf:=jZ h (x:=f) (by simpa using h1.1);unfold resolve;dsimp only;revert hf;generalize fr.eval f=v;generalize fr'.eval f=v';intro hf;cases hf<;>first|exact a7|exact fX (e:=.nilDeref)|skip
   rename_i f fs fs' cs cs' hFf h3 h4 h5 h6;exact Fl hF hFf (((iu.mk h3 h4).append ha).append ⟨h5,h6⟩)
end
def Oc(P:aI)(F:Nat→Bool)(o:Oper):Bool:=Vf P F o.op
def gQ(P:aI)(F:Nat→Bool):Code→Bool
 |.skip|.exit _|.label _|.ret=>true
 |.region _ ops _=>ops.all (Oc P F)
 |.seq a b=>gQ P F a&&gQ P F b
 |.cond c a b=>zZ F c&&gQ P F a&&gQ P F b
 |.block _ c|.loop c=>gQ P F c
 |_=>false
def iv(P:aI)(F:Nat→Bool):oJ→Bool
 |.code c|.inLoop c=>gQ P F c
 |.inBlock _=>true
 |.inRegion ops _=>ops.all (Oc P F)
 |_=>false
structure sH(P:aI)(F:Nat→Bool):Prop where
 text:∀f,F f=true→∃fn c,P.funcs[f]?=some fn∧fn.body=some c∧gQ P F c=true∧(fn.name == "runtime.NumGoroutine")=false
theorem sH.body{P:aI}{F:Nat→Bool}(h:sH P F):Ur P F:=fun f hf=>by
 obtain⟨fn,c,h1,h2,_,h3⟩:=h.text f hf;exact⟨fn,h1,by rw[h2];rfl,h3⟩
def iW(fn:dR)(tmps:Array aj)(todo:List oJ)(mode:FrameMode)(kd:jy):Frame:={ fn,tmps,todo,defers:=[],mode,kind:=kd,roundOf:=none }
abbrev Fr(fn:dR)(tmps:Array aj)(todo:List oJ)(mode:FrameMode):Frame:=iW fn tmps todo mode .normal
inductive FR(P:aI)(F:Nat→Bool)(ρ:Rn)(k:List oJ)(kd:jy):bL→bL→Prop
 |run {fn:dR} {tmps bt:Array aj} {todo:List oJ}:iu F ρ tmps bt→todo.all (iv P F)=true→FR P F ρ k kd (Fr fn tmps todo .run) (iW fn bt (todo++k) .run kd)
 |ret {fn:dR} {tmps bt:Array aj} {todo NW:List oJ}:iu F ρ tmps bt→FR P F ρ k kd (Fr fn tmps todo .returning) (iW fn bt NW .returning kd)
theorem FR.mono{P:aI}{F:Nat→Bool}{ρ ρ':Rn}{k:List oJ}{kd:jy}{fr fr':bL}(h:FR P F ρ k kd fr fr')(hl:Rn.le ρ ρ'):FR P F ρ' k kd fr fr':=by
 cases h with
 |run h1 h2=>exact .run (h1.mono hl) h2
 |ret h1=>exact .ret (h1.mono hl)
theorem FR.defers{P:aI}{F:Nat→Bool}{ρ:Rn}{k:List oJ}{kd:jy}{fr fr':bL}(h:FR P F ρ k kd fr fr'):fr.defers=[]:=by cases h<;>rfl
theorem FR.kinds{P:aI}{F:Nat→Bool}{ρ:Rn}{k:List oJ}{kd:jy}{fr fr':bL}(h:FR P F ρ k kd fr fr'):fr.kind=.normal∧fr'.kind=kd:=by cases h<;>exact⟨rfl,rfl⟩
inductive SR(P:aI)(F:Nat→Bool)(ρ:Rn)(k:List oJ)(kd:jy)(cs:List bL):bL→List bL→bL→List bL→Prop
 |base {fr fr':bL}:FR P F ρ k kd fr fr'→P.inits.idxOf? fr.fn=none→SR P F ρ k kd cs fr [] fr' cs
 |up {fr fr' c c':bL} {r r':List bL}:FR P F ρ [] .normal fr fr'→c.todo≠[]→c.mode=.run→SR P F ρ k kd cs c r c' r'→SR P F ρ k kd cs fr (c::r) fr' (c'::r')
theorem SR.mono{P:aI}{F:Nat→Bool}{ρ ρ':Rn}{k:List oJ}{kd:jy}{cs:List bL}{fr fr':bL}{l l':List bL}(h:SR P F ρ k kd cs fr l fr' l')(hl:Rn.le ρ ρ'):SR P F ρ' k kd cs fr l fr' l':=by
 induction h with
 |base h1 h2=>exact .base (h1.mono hl) h2
 |up h1 h2 h3 _ ih=>exact .up (h1.mono hl) h2 h3 ih
theorem SR.defers{P:aI}{F:Nat→Bool}{ρ:Rn}{k:List oJ}{kd:jy}{cs:List bL}{fr fr':bL}{l l':List bL}(h:SR P F ρ k kd cs fr l fr' l'):fr.defers=[]∧∀c∈l,c.defers=[]:=by
 induction h with
 |base h1 h2=>exact⟨h1.defers,by simp⟩
 |up h1 h2 h3 _ ih=>
  refine⟨h1.defers,fun c hc=>?_⟩;rcases bR.1 hc with rfl|hc
  ·exact ih.1
  ·exact ih.2 c hc
def NC(g:aB):Prop:=g.dying≠none∨g.status≠.running∨∃chain,g.frame.mode=.panicking chain∧g.frame.defers=[]∧∀c∈g.callers,c.defers=[]
section
variable{P:aI}{F:Nat→Bool}{G':Nat}{B:Nat→Prop}{ρ:Rn}{k:List oJ}{kd:jy}{cs:List bL}{lw w:ar}{main:Bool}
theorem raise_mode(fr:bL)(c:List PanicEntry):∃ch,(fr.raise c).mode=.panicking ch∧(fr.raise c).defers=fr.defers:=by
 unfold Frame.raise;cases fr.mode<;>exact⟨_,rfl,rfl⟩
theorem Pj{g:aB}(h:NC g)(hd:g.dying=none)(hr:g.status=.running):(∃o w1 es,eM P true g lw=.ended o w1 es)∨∃g1 w1 es,eM P true g lw=.go g1 w1 es∧NC g1:=by
 rcases h with h|h|⟨chain,h1,h2,h3⟩
 ·exact absurd hd h
 ·exact absurd hr h
 obtain⟨fr,cs,st,dy,off⟩:=g;obtain⟨fn,tmps,todo,defers,mode,kind,roundOf⟩:=fr;dsimp only at hd hr h1 h2 h3;subst hd;subst h1;subst h2;have e:eM P true ⟨⟨fn,tmps,todo,[],.panicking chain,kind,roundOf⟩,cs,st,none,off⟩ lw=lD P true ⟨fn,tmps,todo,[],.panicking chain,kind,roundOf⟩ cs none lw:=by unfold eM;rfl
 rw[e];unfold lD;dsimp only;split
 ·exact .inl ⟨_,_,_,rfl⟩
 ·cases cs with
  |cons c r=>
   obtain⟨ch,e1,e2⟩:=raise_mode c chain;exact .inr ⟨_,_,_,rfl,.inr (.inr ⟨ch,e1,e2.trans (h3 c (by simp)),fun x hx=>h3 x (by simp[hx])⟩)⟩
  |nil=>
   dsimp only;split
   ·exact .inr ⟨_,_,_,rfl,.inr (.inl (by simp))⟩
   ·split
    ·exact .inr ⟨_,_,_,rfl,.inl (by simp)⟩
    ·exact .inl ⟨_,_,_,rfl⟩
    ·exact .inl ⟨_,_,_,rfl⟩
def G5(P:aI)(F:Nat→Bool)(G':Nat)(B:Nat→Prop)(ρ:Rn)(k:List oJ)(kd:jy)(cs:List bL)(lw w:ar)(s s':GStep):Prop:=
 (∃o jJ es,s=.ended o jJ es)∨(∃g1 jJ es,s=.go g1 jJ es∧NC g1)∨
 (∃g1 ch v jJ es,s=.comm g1 #[{ chan:=ch,send:=some v,zero:=.tuple #[] }] true .send jJ es∧∀(b:Nat) (o:Obj),jJ.heap[b]?=some o→o.isChan=false)∨
 ∃FD l1 jJ es vY Vr w1 evs ρ1,s=.go (G FD l1) jJ es∧s'=.go (G vY Vr) w1 evs∧SR P F ρ1 k kd cs FD l1 vY Vr∧l8 F G' B ρ lw w ρ1 jJ w1 evs
theorem fW(hw:WR F G' B ρ lw w){FD vY:bL}{l1 Vr:List bL}(h:SR P F ρ k kd cs FD l1 vY Vr){s s':GStep}(e:s=.go (G FD l1) lw #[])(e':s'=.go (G vY Vr) w #[]):G5 P F G' B ρ k kd cs lw w s s':=
 .inr (.inr (.inr ⟨_,_,_,_,_,_,_,_,ρ,e,e',h,.refl hw⟩))
theorem l8.seen{ρ':Rn}{ek w':ar}{es:Array fP}(h:l8 F G' B ρ lw w ρ' ek w' es)(fn:dR):l8 F G' B ρ lw w ρ' ek w' (seen P fn es++#[]):=
 h.more fun e he=>h.evs e (mem_seen (by simpa using he))
theorem SR.set{fr fr' FD vY:bL}{l l':List bL}(h:SR P F ρ k kd cs fr l fr' l')(hfn:FD.fn=fr.fn)(h0:l=[]→FR P F ρ k kd fr fr'→FR P F ρ k kd FD vY)(h1:l≠[]→FR P F ρ [] .normal fr fr'→FR P F ρ [] .normal FD vY):SR P F ρ k kd cs FD l vY l':=by
 cases h with
 |base h h'=>exact .base (h0 rfl h) (hfn▸h')
 |up h a b r=>exact .up (h1 (by simp) h) a b r
theorem lj{x:oJ}{t:List oJ}(h:(x::t).all (iv P F)=true):iv P F x=true∧t.all (iv P F)=true:=by simpa using h
theorem il{x:oJ}{t:List oJ}(h:iv P F x=true)(h':t.all (iv P F)=true):(x::t).all (iv P F)=true:=by simp[h];simpa using h'
theorem xE{id:Nat}{k:List oJ}:∀ {t t':List oJ},exitTo id t=some t'→exitTo id (t++k)=some (t'++k)
 |[],t',h=>by cases h
 |x::t,t',h=>by
  cases x<;>simp only[ie,exitTo] at h ⊢<;>first|exact xE h|skip
  split at h
  ·rename_i hh;rw[if_pos hh];cases h;rfl
  ·rename_i hh;rw[if_neg hh];exact xE h
theorem xD{id:Nat}:∀ {t t':List oJ},t.all (iv P F)=true→exitTo id t=some t'→t'.all (iv P F)=true
 |[],t',ht,h=>by cases h
 |x::t,t',ht,h=>by
  have YD:=(lj ht).2;cases x<;>simp only[exitTo] at h<;>first|exact xD YD h|skip
  split at h
  ·cases h;exact YD
  ·exact xD YD h
theorem CO{fn:dR}{tmps bt:Array aj}{ops:Array Oper}{i:Nat}{rest:List Nat}{t k:List oJ}(h:iu F ρ tmps bt)(ht:(Item.inRegion ops (i::rest)::t).all (iv P F)=true){v v':aj}(hv:VR F ρ v v') :
  FR P F ρ k kd ((Fr fn tmps (.inRegion ops (i::rest)::t) .run).finish v) ((iW fn bt (.inRegion ops (i::rest)::t++k) .run kd).finish v'):=by
 unfold Frame.finish Fr iW;simp only[ie];have Ce:(Item.inRegion ops rest::t).all (iv P F)=true:=il (lj ht).1 (lj ht).2;cases(ops[i]?).bind (·.dst) with
 |none=>exact .run (todo:=.inRegion ops rest::t) h Ce
 |some d=>exact .run (todo:=.inRegion ops rest::t) (h.set hv d) Ce
theorem Aq(fr:bL)(v:aj):(fr.finish v).fn=fr.fn:=by
 unfold Frame.finish;split<;>rfl
end
section
variable{P:aI}{F:Nat→Bool}{B:Nat→Prop}{ρ:Rn}{k:List oJ}{kd:jy}{cs:List bL}{lw w:ar}{main:Bool}
theorem WR.rok(h:WR F P.globals.size B ρ lw w):Ua P ρ:=⟨h.inj,h.low⟩
theorem Ty(hF:sH P F){f:dR}(hf:F f=true){l m:Array aj}(h:iu F ρ l m):FR P F ρ [] .normal (dZ P f l .normal) (dZ P f m .normal):=by
 obtain⟨fn,c,h1,h2,h3,_⟩:=hF.text f hf;unfold dZ;simp only[h1,dH,Option.getD_some,gg,h2];have:=FR.run (P:=P) (F:=F) (ρ:=ρ) (k:=[]) (kd:=.normal) (fn:=f) (todo:=[.code c]) (h.append (iu.replicate sM (fn.ntmps-l.size))) (by simpa [iv] using h3);rw[h.size] at this;rw[h.size];exact this
theorem opR(hF:sH P F)(hw:WR F P.globals.size B ρ lw w)(ht:vv lw w)(hG:P.globals.size≤lw.heap.size)(XA:P.globals.size≤w.heap.size)
  {fn:dR} {tmps bt:Array aj} {ops:Array Oper} {i:Nat} {rest:List Nat} {t t':List oJ} {l l':List bL} (hto:(Item.inRegion ops (i::rest)::t).all (iv P F)=true)
  (hT:t'=t++(if l=[] then k else[])) {kk:jy} (hK:kk=if l=[] then kd else .normal) (hE:kd≠.early)
  (h:SR P F ρ k kd cs (Fr fn tmps (.inRegion ops (i::rest)::t) .run) l (iW fn bt (.inRegion ops (i::rest)::t') .run kk) l') (ha:iu F ρ tmps bt) {o:Oper} (ho:ops[i]?=some o) :
  G5 P F P.globals.size B ρ k kd cs lw w (dX P true (Fr fn tmps (.inRegion ops (i::rest)::t) .run) l none (bX (Fr fn tmps (.inRegion ops (i::rest)::t) .run).eval o) lw)
   (dX P true (iW fn bt (.inRegion ops (i::rest)::t') .run kk) l' none (bX (iW fn bt (.inRegion ops (i::rest)::t') .run kk).eval o) w):=by
 have cS:Vf P F o.op=true:=by
  have:=(lj hto).1;exact jY.1 this o (Array.mem_of_getElem? ho)
 have hs:=JQ hF.body hw.rok (fr:=Fr fn tmps (.inRegion ops (i::rest)::t) .run) (fr':=iW fn bt (.inRegion ops (i::rest)::t') .run kk) ha cS
 have ru:∀ {ρ':Rn} {v v':aj},Rn.le ρ ρ'→VR F ρ' v v'→SR P F ρ' k kd cs ((Fr fn tmps (.inRegion ops (i::rest)::t) .run).finish v) l ((iW fn bt (.inRegion ops (i::rest)::t') .run kk).finish v') l':=by
  intro ρ' v v' hle hv;refine(h.mono hle).set (Aq _ _) (fun hl _=>?_) fun hl _=>?_
  ·rw[if_pos hl] at hT hK;subst hT;subst hK;exact CO (k:=k) (ha.mono hle) hto hv
  ·rw[if_neg hl] at hT hK;subst hT;subst hK;exact CO (k:=[]) (ha.mono hle) hto hv
 rcases hs.runT hw ht hG XA #[] #[] with⟨a,jJ,le,b,w1,evs,ρ1,h1,h2,h3,h4⟩|⟨e,jJ,le,h1,h2⟩
 ·simp only[eL] at h2
  have VK:(kk == .early)=false:=by
   rw[hK];split
   ·exact beq_eq_false_iff_ne.2 hE
   ·rfl
  unfold dX;simp only[if_true,h1,h2];simp only[iW,VK,bu,if_false];cases h3 with
  |value hv=>
   refine .inr (.inr (.inr ⟨_,_,_,_,_,_,_,_,ρ1,rfl,rfl,ru h4.le hv,?_⟩));exact h4.seen fn
  |skip=>
   refine .inr (.inr (.inr ⟨_,_,_,_,_,_,_,_,ρ1,rfl,rfl,ru h4.le sM,?_⟩));exact h4.seen fn
  |enter hf acA=>
   refine .inr (.inr (.inr ⟨_,_,_,_,_,_,_,_,ρ1,rfl,rfl,.up (Ty hF hf acA) (by simp[Fr]) rfl (h.mono h4.le),?_⟩));exact h4.seen fn
  |send=>exact .inr (.inr (.inl ⟨_,_,_,_,_,rfl,h4.wr.H6⟩))
 ·unfold dX;simp only[if_true,h1];have hd:=h.defers;cases e with
  |panic v=>
   obtain⟨ch,e1,e2⟩:=raise_mode (Fr fn tmps (.inRegion ops (i::rest)::t) .run) [{ v,recovered:=false }];exact .inr (.inl ⟨_,_,_,rfl,.inr (.inr ⟨ch,e1,e2.trans hd.1,hd.2⟩)⟩)
  |stuck s=>exact .inl ⟨_,_,_,rfl⟩
  |unsupported u=>
   cases u<;>first|exact absurd h2 id|exact .inl ⟨_,_,_,rfl⟩
  |_=>exact absurd h2 id
theorem SR.top{fr fr':bL}{l l':List bL}(h:SR P F ρ k kd cs fr l fr' l'):FR P F ρ (if l=[] then k else[]) (if l=[] then kd else .normal) fr fr':=by
 cases h with
 |base h _=>simpa using h
 |up h _ _ _=>simpa using h
theorem SR.set'{fr fr' FD vY:bL}{l l':List bL}(h:SR P F ρ k kd cs fr l fr' l')(hfn:FD.fn=fr.fn)(h1:FR P F ρ (if l=[] then k else[]) (if l=[] then kd else .normal) FD vY):SR P F ρ k kd cs FD l vY l':=
 h.set hfn (fun hl _=>by simpa [hl] using h1) fun hl _=>by simpa [hl] using h1
theorem Rp{tmps bt:Array aj}(ha:iu F ρ tmps bt)(ops:Array Oper):yielded ops bt=yielded ops tmps:=by
 funext j
 unfold yielded;cases(ops[j]?).bind (·.dst) with
 |none=>rfl
 |some d=>
  simp only[gg];cases hx:tmps[d]? with
  |none=>rw[ha.none hx]
  |some x=>
   obtain⟨y,hy,hv⟩:=ha.get hx;rw[hy];cases hv<;>rfl
theorem acT(hF:sH P F)(hw:WR F P.globals.size B ρ lw w)(ht:vv lw w)(hG:P.globals.size≤lw.heap.size)(XA:P.globals.size≤w.heap.size)
  {fn:dR} {tmps bt:Array aj} {todo:List oJ} {l l':List bL} (h:SR P F ρ k kd cs (Fr fn tmps todo .run) l (iW fn bt (todo++if l=[] then k else[]) .run (if l=[] then kd else .normal)) l') (hE:kd≠.early)
  (ha:iu F ρ tmps bt) (cS:todo.all (iv P F)=true) (hk:l=[]→todo=[]→k=[]) :
  G5 P F P.globals.size B ρ k kd cs lw w (bW P true true (Fr fn tmps todo .run) l none lw) (bW P main true (iW fn bt (todo++if l=[] then k else[]) .run (if l=[] then kd else .normal)) l' none w):=by
 have qy:todo=[]→(if l=[] then k else[])=[]:=fun e=>by
  split
  ·rename_i hl;exact hk hl e
  ·rfl
 generalize sI:(if l=[] then k else[])=kk at h qy ⊢;generalize Cj:(if l=[] then kd else CallKind.normal)=Jm at h ⊢;have B8:∀t:List oJ,t.all (iv P F)=true→SR P F ρ k kd cs (Fr fn tmps t .run) l (iW fn bt (t++kk) .run Jm) l':=fun t hto=>h.set' rfl (by rw[sI,Cj];exact .run ha hto);have aa0:∀t t':List oJ,SR P F ρ k kd cs (Fr fn tmps t .returning) l (iW fn bt t' .returning Jm) l':=fun t t'=>h.set' rfl (by rw[Cj];exact .ret ha);cases todo with
 |nil=>
  rw[qy rfl] at h ⊢;exact fW hw (aa0 [] []) rfl rfl
 |cons x t=>
  obtain⟨hx,Iw⟩:=lj cS;cases x with
  |inBlock id=>exact fW hw (B8 t Iw) rfl rfl
  |inLoop c=>exact fW hw (B8 (.code c::.inLoop c::t) (il hx (il hx Iw))) rfl rfl
  |inRegion ops todo=>
   cases todo with
   |nil=>exact fW hw (B8 t Iw) rfl rfl
   |cons i rest=>
    have hy:=Rp ha ops
    by_cases Xb:((ops[i]?).map (Region.wanted · (yielded ops tmps))).getD false=true
    ·have e1:bW P true true (Fr fn tmps (.inRegion ops (i::rest)::t) .run) l none lw=eI P true (Fr fn tmps (.inRegion ops (i::rest)::t) .run) l none lw:=if_pos Xb
     have e2:bW P main true (iW fn bt (.inRegion ops (i::rest)::t++kk) .run Jm) l' none w=eI P true (iW fn bt (.inRegion ops (i::rest)::(t++kk)) .run Jm) l' none w:=by
      rw[←hy] at Xb;exact if_pos Xb
     rw[e1,e2];cases ho:ops[i]? with
     |none=>rw[ho] at Xb;cases Xb
     |some o=>
      have e3:eI P true (Fr fn tmps (.inRegion ops (i::rest)::t) .run) l none lw=dX P true (Fr fn tmps (.inRegion ops (i::rest)::t) .run) l none (bX (Fr fn tmps (.inRegion ops (i::rest)::t) .run).eval o) lw:=by
       unfold eI;have:(Fr fn tmps (.inRegion ops (i::rest)::t) .run).oper?=some o:=ho;rw[this];rfl
      have e4:eI P true (iW fn bt (.inRegion ops (i::rest)::(t++kk)) .run Jm) l' none w=dX P true (iW fn bt (.inRegion ops (i::rest)::(t++kk)) .run Jm) l' none (bX (iW fn bt (.inRegion ops (i::rest)::(t++kk)) .run Jm).eval o) w:=by
       unfold eI;have:(iW fn bt (.inRegion ops (i::rest)::(t++kk)) .run Jm).oper?=some o:=ho;rw[this];rfl
      rw[e3,e4];exact opR hF hw ht hG XA cS (by rw[sI];rfl) Cj.symm hE h ha ho
    ·have e1:bW P true true (Fr fn tmps (.inRegion ops (i::rest)::t) .run) l none lw=.go (G ((Fr fn tmps (.inRegion ops (i::rest)::t) .run).finish af) l) lw:=if_neg Xb
     have e2:bW P main true (iW fn bt (.inRegion ops (i::rest)::t++kk) .run Jm) l' none w=.go (G ((iW fn bt (.inRegion ops (i::rest)::t++kk) .run Jm).finish af) l') w:=by
      rw[←hy] at Xb;exact if_neg Xb
     exact fW hw (h.set' (Aq _ _) (by rw[sI,Cj];exact CO ha cS sM)) e1 e2
  |code c=>
   cases c with
   |ret=>exact fW hw (aa0 _ _) rfl rfl
   |skip=>exact fW hw (B8 t Iw) rfl rfl
   |label n=>exact fW hw (B8 t Iw) rfl rfl
   |seq a b=>
    have hx':gQ P F a=true∧gQ P F b=true:=by simpa [iv,gQ] using hx
    exact fW hw (B8 (.code a::.code b::t) (il hx'.1 (il hx'.2 Iw))) rfl rfl
   |cond c a b=>
    have hx':(zZ F c=true∧gQ P F a=true)∧gQ P F b=true:=by simpa [iv,gQ] using hx
    have hv:=jZ (fr:=Fr fn tmps (.code (.cond c a b)::t) .run) (fr':=iW fn bt (.code (.cond c a b)::t++kk) .run Jm) ha hx'.1.1
    have e1:bW P true true (Fr fn tmps (.code (.cond c a b)::t) .run) l none lw=(match (Fr fn tmps (.code (.cond c a b)::t) .run).eval c with
     |.bool x=>.go (G (Fr fn tmps (.code (if x then a else b)::t) .run) l) lw
     |_=>.ended (.stuck "cond: bool expected" ((Fr fn tmps (.code (.cond c a b)::t) .run).pos P)) lw):=rfl
    have e2:bW P main true (iW fn bt (.code (.cond c a b)::t++kk) .run Jm) l' none w=(match (iW fn bt (.code (.cond c a b)::t++kk) .run Jm).eval c with
     |.bool x=>.go (G (iW fn bt (.code (if x then a else b)::t++kk) .run Jm) l') w
     |_=>.ended (.stuck "cond: bool expected" ((iW fn bt (.code (.cond c a b)::t++kk) .run Jm).pos P)) w):=rfl
    rw[e1,e2];generalize (Fr fn tmps (.code (.cond c a b)::t) .run).eval c=v at hv ⊢;generalize (iW fn bt (.code (.cond c a b)::t++kk) .run Jm).eval c=v' at hv ⊢;cases hv<;>first|exact .inl ⟨_,_,_,rfl⟩|skip
    rename_i x;refine fW hw (B8 (.code (if x then a else b)::t) (il ?_ Iw)) rfl rfl;cases x
    ·exact hx'.2
    ·exact hx'.1.2
   |block id c=>exact fW hw (B8 (.code c::.inBlock id::t) (il hx (il rfl Iw))) rfl rfl
   |loop c=>exact fW hw (B8 (.code c::.inLoop c::t) (il hx (il hx Iw))) rfl rfl
   |exit id=>
    cases he:exitTo id t with
    |none=>
     refine .inl ⟨.stuck "exit, goto: no such block or label" ((Fr fn tmps (.code (.exit id)::t) .run).pos P),lw,#[],?_⟩;show(exitTo id t).elim _ _=_;rw[he];rfl
    |some t'=>
     refine fW hw (B8 t' (xD Iw he)) ?_ ?_
     ·show(exitTo id t).elim _ _=_;rw[he];rfl
     ·show(exitTo id (t++kk)).elim _ _=_;rw[xE he];rfl
   |region id ops draw=>
    cases draw with
    |false=>exact fW hw (B8 (.inRegion ops (List.range ops.size)::t) (il hx Iw)) rfl rfl
    |true=>
     have h0:lw.tape lw.drawn=w.tape w.drawn:=ht 0;refine .inr (.inr (.inr ⟨_,_,_,_,_,_,_,_,ρ,rfl,?_,B8 (.inRegion ops (Region.schedule (P.follows .mixedOrders) ops (lw.tape lw.drawn (.order fn id)))::t) (il hx Iw),F4 hw⟩));rw[h0];rfl
   |_=>cases hx
  |_=>cases hx
theorem Px{ι:Type}{f f':ι→gZ aj}(hf:∀a,bP P F (At ρ (VR F ρ)) ρ (f a) (f' a))(l:Array ι):bP P F (At ρ (iu F ρ)) ρ (l.mapM f) (l.mapM f'):=by
 rw[oN,oN]
 have:∀l:List ι,bP P F (At ρ (Q6 F ρ)) ρ (l.mapM f) (l.mapM f'):=by
  intro l;rw[←List.mapM'_eq_mapM,←List.mapM'_eq_mapM]
  induction l with
  |nil=>exact .dn .nil
  |cons a l ih=>exact(hf a).dB fun _ _ h1=>ih.dB fun _ _ h2=>.dn (.cons h1 h2)
 exact(this l.toList).dB fun _ _ h=>.dn h.row
theorem JS{v v':aj}(h:VR F ρ v v'):bP P F (At ρ (AR ρ)) ρ (asAddr v) (asAddr v'):=by
 cases h<;>first|exact a7|exact fX (e:=.nilDeref)|exact .dn ‹_›
theorem Hg{tmps bt:Array aj}(ha:iu F ρ tmps bt)(fn:Func):bP P F (At ρ (VR F ρ)) ρ (results fn tmps) (results fn bt):=by
 unfold results;refine(Px (fun r=>?_) fn.results).dB fun vs vs' Xd=>?_
 ·cases r with
  |tmp t=>exact .dn (ha.getD sM t)
  |cell a t=>exact(JS (ha.getD sM a)).dB fun x y h=>yr h
 ·have hs:=Xd.size
  by_cases h1:vs.size=1
  ·have h2:vs'.size=1:=by omega
   simp only[h1,h2,dif_pos];exact .dn (Xd.at_ 0 _ _ (aM (by omega)) (aM (by omega)))
  ·have h2:¬vs'.size=1:=by omega
   simp only[h1,h2,dif_neg,not_false_eq_true];exact .dn Xd.tuple
theorem N7(h0:WR F P.globals.size B ρ lw w){fr fr':bL}{l l':List bL}(h:SR P F ρ k kd cs fr l fr' l'){v v':aj}{jJ w1:ar}{evs:Array fP}{ρ1:Rn}
  (hv:VR F ρ1 v v') (hw:l8 F P.globals.size B ρ lw w ρ1 jJ w1 evs) (es:Array fP) :
  G5 P F P.globals.size B ρ k kd cs lw w (A4 es (tL P true fr l none v jJ)) (A4 evs (tL P main fr' l' none v' w1)):=by
 cases h with
 |base h hi=>
  refine .inl ?_;unfold tL;dsimp only;rw[h.kinds.1,hi];exact⟨_,_,_,rfl⟩
 |@up _ _ c c' r r' h abT ab6 hr=>
  unfold tL;dsimp only;rw[h.kinds.1,h.kinds.2];have hr':=hr.mono hw.le;have MH:=hr'.top;refine .inr (.inr (.inr ⟨_,_,_,_,_,_,_,_,ρ1,rfl,rfl,hr'.set' (Aq _ _) ?_,hw.more fun e he=>hw.evs e (by simpa using he)⟩));refine ?_;generalize (if r=[] then k else[])=kk at MH ⊢;generalize (if r=[] then kd else CallKind.normal)=Jm at MH ⊢;cases MH with
  |ret _=>cases ab6
  |@run fn tmps bt todo ha cS=>
   cases todo with
   |nil=>exact absurd rfl abT
   |cons x t=>
    cases x with
    |inRegion ops is=>
     cases is with
     |nil=>exact .run (todo:=.inRegion ops []::t) ha cS
     |cons i rest=>exact CO ha cS hv
    |code c=>exact .run (todo:=.code c::t) ha cS
    |inBlock id=>exact .run (todo:=.inBlock id::t) ha cS
    |inLoop c=>exact .run (todo:=.inLoop c::t) ha cS
    |_=>exact absurd (lj cS).1 (by simp[iv])
theorem UX(hw:WR F P.globals.size B ρ lw w)(ht:vv lw w)(hG:P.globals.size≤lw.heap.size)(XA:P.globals.size≤w.heap.size)
  {fn:dR} {tmps bt:Array aj} {todo NW:List oJ} {l l':List bL} {kk:jy} (h:SR P F ρ k kd cs (Fr fn tmps todo .returning) l (iW fn bt NW .returning kk) l') (ha:iu F ρ tmps bt) :
  G5 P F P.globals.size B ρ k kd cs lw w (lD P true (Fr fn tmps todo .returning) l none lw) (lD P main (iW fn bt NW .returning kk) l' none w):=by
 unfold lD;dsimp only[Fr,iW];cases hf:P.funcs[fn]? with
 |none=>
  have:=N7 (main:=main) hw h (ha.getD sM 0) (.refl hw) #[];have e:∀s:GStep,A4 #[] s=s:=fun s=>by cases s<;>simp[A4]
  rw[e,e] at this;exact this
 |some f=>
  rcases(Hg (P:=P) ha f).runT hw ht hG XA #[] #[] with⟨a,jJ,le,b,w1,evs,ρ1,h1,h2,h3,h4⟩|⟨e,jJ,le,h1,h2⟩
  ·simp only[eL] at h2;simp only[h1,h2];obtain⟨rfl,hv⟩:=h3;exact N7 hw h hv (h4.more fun e he=>h4.evs e (mem_seen he)) _
  ·simp only[h1];cases e<;>exact .inl ⟨_,_,_,rfl⟩
theorem aaV(hF:sH P F)(hw:WR F P.globals.size B ρ lw w)(ht:vv lw w)(hG:P.globals.size≤lw.heap.size)(XA:P.globals.size≤w.heap.size)
  {fr fr':bL} {l l':List bL} (h:SR P F ρ k kd cs fr l fr' l') (hk:l=[]→fr.mode=.run→fr.todo=[]→k=[]) (hE:kd≠.early) :
  G5 P F P.globals.size B ρ k kd cs lw w (eM P true (G fr l) lw) (eM P main (G fr' l') w):=by
 have MH:=h.top;generalize sI:(if l=[] then k else[])=kk at MH;generalize Cj:(if l=[] then kd else CallKind.normal)=Jm at MH;cases MH with
 |run ha cS=>
  subst sI;subst Cj;exact acT (main:=main) hF hw ht hG XA h hE ha cS fun h1 h2=>hk h1 rfl h2
 |ret ha=>exact UX (main:=main) hw ht hG XA h ha
end
structure gW(K:Nat→Prop)(w w1:ar):Prop where
 grow:w.heap.size≤w1.heap.size
 keep:∀c,K c→w1.heap[c]?=w.heap[c]?
theorem gW.refl(K:Nat→Prop)(w:ar):gW K w w:=⟨ax _,fun _ _=>rfl⟩
theorem gW.trans{K:Nat→Prop}{a b c:ar}(h:gW K a b)(h':gW K b c):gW K a c:=⟨aN h.grow h'.grow,fun x hx=>(h'.keep x hx).trans (h.keep x hx)⟩
def own(O:Nat→Prop)(w w':ar):Nat→Prop:=fun c=>O c∨(w.heap.size≤c∧c<w'.heap.size)
structure Jk(S O:Nat→Prop)(w w':ar)(es:Array fP):Prop where
 grow:w.heap.size≤w'.heap.size
 keep:∀c,c<w.heap.size→¬O c→w'.heap[c]?=w.heap[c]?
 tape:w'.tape=w.tape
 drawn:w.drawn≤w'.drawn
 os:w'.os=w.os
 out:w'.output=w.output
 evs:∀e∈es,NM (fun c=>S c∨own O w w' c) (own O w w') e
inductive Walk(P:aI)(main:Bool)(S:Nat→Prop)(Stop:(Nat→Prop)→aB→ar→Prop):(Nat→Prop)→aB→ar→Prop
 |stop {O:Nat→Prop} {g:aB} {w:ar}:(∀w1,gW (fun c=>S c∨O c) w w1→Stop O g w1)→Walk P main S Stop O g w
 |step {O:Nat→Prop} {g:aB} {w:ar}:g.status=.running→g.dying=none→
   (∀w1,gW (fun c=>S c∨O c) w w1→∃g2 w2 es,eM P main g w1=.go g2 w2 es∧Jk S O w1 w2 es∧g2.status=.running∧g2.dying=none)→
   (∀w1,gW (fun c=>S c∨O c) w w1→∀g2 w2 es,eM P main g w1=.go g2 w2 es→Walk P main S Stop (own O w1 w2) g2 w2)→Walk P main S Stop O g w
section
variable{P:aI}{main:Bool}{S:Nat→Prop}{Stop XO:(Nat→Prop)→aB→ar→Prop}{O:Nat→Prop}{g:aB}{w:ar}
theorem Walk.rely(h:Walk P main S Stop O g w){w1:ar}(hr:gW (fun c=>S c∨O c) w w1):Walk P main S Stop O g w1:=by
 cases h with
 |stop h=>exact .stop fun w2 h2=>h w2 (hr.trans h2)
 |step a b c d=>exact .step a b (fun w2 h2=>c w2 (hr.trans h2)) fun w2 h2=>d w2 (hr.trans h2)
theorem Walk.bind(h:Walk P main S Stop O g w)(k:∀O g w,Stop O g w→Walk P main S XO O g w):Walk P main S XO O g w:=by
 induction h with
 |@stop O g w h=>exact k _ _ _ (h w (.refl _ _))
 |step a b c d ih=>exact .step a b c ih
theorem Walk.mk{r:g.status=.running}{d:g.dying=none}(h:∀w1,gW (fun c=>S c∨O c) w w1→∃g2 w2 es,eM P main g w1=.go g2 w2 es∧Jk S O w1 w2 es∧g2.status=.running∧g2.dying=none∧Walk P main S Stop (own O w1 w2) g2 w2):Walk P main S Stop O g w:=by
 refine .step r d (fun w1 h1=>?_) fun w1 h1 g2 w2 es e=>?_
 ·obtain⟨g2,w2,es,e,hg,hr,hd,_⟩:=h w1 h1;exact⟨g2,w2,es,e,hg,hr,hd⟩
 ·obtain⟨g3,w3,es3,e3,_,_,_,hw⟩:=h w1 h1;rw[e] at e3;injection e3 with e4 e5 e6
  rw[e4,e5];exact hw
end
section
variable{P:aI}{F:Nat→Bool}{B:Nat→Prop}{ρ:Rn}{k:List oJ}{kd:jy}{cs:List bL}{lw w:ar}{main:Bool}{Stop:aB→ar→Prop}
theorem yP{g g1 g':aB}{jJ ek:ar}{es:Array fP}(h:rf P g lw g' ek)(e:eM P true g lw=.go g1 jJ es):g'=g1∧ek=jJ:=by
 obtain⟨hr,_,⟨ops,hs⟩,_⟩:=h;rw[stepT_solo hr,m9] at hs;have M0:(#[g]:Array aB)[0]?=some g:=rfl;have e1:=runT_crowd_go (P:=P) (gs:=#[g]) (w:=lw) (sl:=none) (i:=0) M0 e;rw[e1] at hs;injection hs with hs1 _
 injection hs1 with hs3
 have:(#[g].map (woken P g g1 jJ)).setIfInBounds 0 g1 = #[g1]:=by simp
 rw[this,←m9] at hs3;obtain⟨h1,h2⟩:=og hs3;exact⟨h1.symm,h2.symm⟩
theorem uQ{g g':aB}{jJ ek:ar}{o:Outcome}{es:Array fP}(h:rf P g lw g' ek)(e:eM P true g lw=.ended o jJ es):False:=by
 obtain⟨hr,_,⟨ops,hs⟩,_⟩:=h;rw[stepT_solo hr,m9] at hs;have M0:(#[g]:Array aB)[0]?=some g:=rfl;have e1:=runT_many_ended (P:=P) (gs:=#[g]) (w:=lw) (sl:=none) (i:=0) M0 e;rw[e1] at hs;injection hs with hs1 _
 cases hs1
theorem MB{g g1 g':aB}{jJ ek:ar}{ch v:aj}{es:Array fP}(h:rf P g lw g' ek)(e:eM P true g lw=.comm g1 #[{ chan:=ch,send:=some v,zero:=.tuple #[] }] true .send jJ es)
  (hn:∀(b:Nat) (o:Obj),jJ.heap[b]?=some o→o.isChan=false):False:=by
 obtain⟨hr,_,⟨ops,hs⟩,hr',_⟩:=h;rw[stepT_solo hr,m9] at hs;have M0:(#[g]:Array aB)[0]?=some g:=rfl;have e1:=runT_crowd_comm (P:=P) (gs:=#[g]) (w:=lw) (sl:=none) (i:=0) M0 e;rw[e1] at hs;injection hs with hs1 _
 have kJ:∀c:mD,(c.chan=.chan none∨(match c.chan with
   |.chan none=>false
   |.chan (some r)=>!(jJ.heap[r]? matches some (.chan ..))
   |_=>true)=true):=by
  intro c;cases hc:c.chan with
  |chan r=>
   cases r with
   |none=>exact .inl rfl
   |some r=>
    right;dsimp only;cases hh:jJ.heap[r]? with
    |none=>rfl
    |some o=>
     have:=hn r o hh;cases o<;>first|rfl|cases this
  |_=>exact .inr rfl
 unfold communicate at hs1;rcases kJ { chan:=ch,send:=some v,zero:=.tuple #[] } with hb|hb
 ·dsimp only at hb;subst hb;have hw:∀gs:Array aB,ways jJ gs { chan:=.chan none,send:=some v,zero:=.tuple #[] }=[]:=fun gs=>rfl;simp[hw,waitingAt,timerAhead] at hs1;have h1:=congrArg Machine.gs hs1;have h2:(#[g].setIfInBounds 0 { g1 with status:=.blocked,offers:=some (#[{ chan:=.chan none,send:=some v,zero:=.tuple #[] }],.send) }:Array aB) = #[g']:=by simpa [solo,crowd] using h1
  have h3:g'={ g1 with status:=.blocked,offers:=some (#[{ chan:=.chan none,send:=some v,zero:=.tuple #[] }],.send) }:=by
   have:=congrArg (fun a:Array aB=>a[0]?) h2;simpa using this.symm
  rw[h3] at hr';cases hr'
 ·dsimp only at hb;simp at hs1;rw[if_pos] at hs1
  ·cases hs1
  ·exact hb
theorem Rx(hS:∀g W,Stop g W→¬NC g){g:aB}{W:ar}(h:Bar P Stop g W):¬NC g:=by
 induction h with
 |stop h=>exact hS _ _ h
 |@step g W live down ih=>
  intro hs;obtain⟨g',W',hl⟩:=live W.tape fun _ _=>rfl;rcases Pj (P:=P) (lw:=dr W W.tape W.drawn) hs hl.2.1 hl.1 with⟨o,w1,es,e⟩|⟨g1,w1,es,e,hs1⟩
  ·exact uQ hl e
  ·obtain⟨rfl,rfl⟩:=yP hl e;exact ih W.tape (fun _ _=>rfl) _ _ hl hs1
theorem Q0{fn:dR}{tmps:Array aj}{todo:List oJ}(hi:P.inits.idxOf? fn=none):∃o w1 es,eM P true (G (Fr fn tmps todo .returning) []) lw=.ended o w1 es:=by
 have e:eM P true (G (Fr fn tmps todo .returning) []) lw=lD P true (Fr fn tmps todo .returning) [] none lw:=rfl;rw[e]
 have hd:∀v w,tL P true (Fr fn tmps todo .returning) [] none v w=.ended (.done v) w:=by
  intro v w;unfold tL;simp only[Fr,iW,hi];rfl
 unfold lD;dsimp only[Fr,iW];cases P.funcs[fn]? with
 |none=>exact⟨_,_,_,hd _ _⟩
 |some f=>
  dsimp only;generalize (results f tmps).runT P lw #[]=r;obtain⟨r,es⟩:=r;cases r with
  |ok v w=>
   have:=hd v w;simp only[Fr,iW] at this;simp only[this];exact⟨_,_,_,rfl⟩
  |halt e w=>cases e<;>exact⟨_,_,_,rfl⟩
theorem WR.rely(h:WR F P.globals.size B ρ lw w){w1:ar}(hr:gW (fun c=>(∃b,B b∧ρ b=some c)∨ρ.owns B c) w w1):WR F P.globals.size B ρ lw w1:=by
 refine⟨h.inj,h.low,h.base,fun b c hb=>?_,h.H6⟩;obtain⟨o,o',h1,h2,h3,h4⟩:=h.at_ b c hb;refine⟨o,o',h1,?_,h3,h4⟩;rw[hr.keep c ?_,h2];rcases Classical.em (B b) with hl|hg
 ·exact .inl ⟨b,hl,hb⟩
 ·exact .inr ⟨b,hg,hb⟩
theorem l8.owns{ρ1:Rn}{jJ w1:ar}{es:Array fP}(h0:WR F P.globals.size B ρ lw w)(h:l8 F P.globals.size B ρ lw w ρ1 jJ w1 es):ρ1.owns B=own (ρ.owns B) w w1:=by
 funext c
 refine propext ⟨?_,?_⟩
 ·rintro⟨b,hb,he⟩;rcases h.new b c he with h1|⟨_,h2⟩
  ·exact .inl ⟨b,hb,h1⟩
  ·obtain⟨_,_,_,hc,_⟩:=h.wr.at_ b c he;exact .inr ⟨h2,ey hc⟩
 ·rintro(⟨b,hb,he⟩|⟨h1,h2⟩)
  ·exact⟨b,hb,h.le _ _ he⟩
  ·obtain⟨b,he⟩:=h.fresh c h1 h2;rcases h.new b c he with h3|⟨h3,_⟩
   ·obtain⟨_,_,_,hc,_⟩:=h0.at_ b c h3;have:=ey hc;omega
   ·exact⟨b,fun hb=>by have:=h0.base b hb;omega,he⟩
theorem l8.shared{ρ1:Rn}{jJ w1:ar}{es:Array fP}(h0:WR F P.globals.size B ρ lw w)(h:l8 F P.globals.size B ρ lw w ρ1 jJ w1 es)(c:Nat):(∃b,B b∧ρ1 b=some c)↔∃b,B b∧ρ b=some c:=by
 constructor
 ·rintro⟨b,hb,he⟩;rcases h.new b c he with h1|⟨h1,_⟩
  ·exact⟨b,hb,h1⟩
  ·have:=h0.base b hb;omega
 ·rintro⟨b,hb,he⟩;exact⟨b,hb,h.le _ _ he⟩
structure adE(P:aI)(F:Nat→Bool)(B:Nat→Prop)(k:List oJ)(kd:jy)(cs:List bL)(Stop:aB→ar→Prop)(lw0:ar)(ρ0:Rn)(O:Nat→Prop)(g':aB)(w':ar)(fr:bL)(l:List bL)(lw:ar)(ρ:Rn)(fr':bL)(l':List bL):Prop where
 g:g'=G fr' l'
 stop:Stop (G fr l) lw
 sr:SR P F ρ k kd cs fr l fr' l'
 wr:WR F P.globals.size B ρ lw w'
 s5:P.globals.size≤w'.heap.size
 own:O=ρ.owns B
 shared:∀c,(∃b,B b∧ρ b=some c)↔∃b,B b∧ρ0 b=some c
 le:Rn.le ρ0 ρ
 grow:lw0.heap.size≤lw.heap.size
 ok:dw lw
theorem JA(T:Quiet P)(hF:sH P F)(hS:∀g W,Stop g W→¬NC g)(hE:kd≠.early)(hk:k=[]∨∀g W,Stop g W→g.frame.mode=.run){S:Nat→Prop} :
  ∀ {g:aB} {lw:ar},Bar P Stop g lw→zN g→dw lw→P.globals.size≤lw.heap.size→∀ {fr:bL} {l:List bL} {ρ:Rn} {fr':bL} {l':List bL} {w:ar},g=G fr l→SR P F ρ k kd cs fr l fr' l'→WR F P.globals.size B ρ lw w→P.globals.size≤w.heap.size→
   (∀c,S c↔∃b,B b∧ρ b=some c)→
   Walk P main S (fun O g' w'=>∃FD l1 jJ ρ1 vY Vr,adE P F B k kd cs Stop lw ρ O g' w' FD l1 jJ ρ1 vY Vr) (ρ.owns B) (G fr' l') w:=by
 intro g lw h
 induction h with
 |@stop g lw h=>
  rintro VN cS hG fr l ρ fr' l' w rfl YF hw BI V3;have eK:(fun c=>S c∨ρ.owns B c)=fun c=>(∃b,B b∧ρ b=some c)∨ρ.owns B c:=by funext c;rw[V3 c]
  refine .stop fun w1 hr=>?_;rw[eK] at hr;exact⟨fr,l,lw,ρ,fr',l',rfl,h,YF,hw.rely hr,aN BI hr.grow,rfl,fun c=>Iff.rfl,Rn.le_refl _,ax _,cS⟩
 |@step g lw live down ih=>
  rintro VN cS hG fr l ρ fr' l' w rfl YF hw BI V3;have eK:(fun c=>S c∨ρ.owns B c)=fun c=>(∃b,B b∧ρ b=some c)∨ρ.owns B c:=by funext c;rw[V3 c]
  refine Walk.mk (r:=rfl) (d:=rfl) fun w1 hr=>?_;have hr0:=hr;rw[eK] at hr;have hw1:=hw.rely hr;have ack:=aN BI hr.grow;let τ:Nat→Question→Nat:=fun p=>if p<lw.drawn then lw.tape p else w1.tape (w1.drawn+(p-lw.drawn))
  have MQ:Ext lw τ:=fun i hi=>by simp only[τ,if_pos hi]
  have ht:vv (dr lw τ lw.drawn) w1:=fun i=>by simp only[yJ,pH,τ,if_neg (show ¬lw.drawn+i<lw.drawn by omega),rL]
  obtain⟨g1,jJ,hl⟩:=live τ MQ;obtain⟨acj,Ch,_⟩:=qM T VN (lw:=dr lw τ lw.drawn) cS hl
  have qy:l=[]→fr.mode=.run→fr.todo=[]→k=[]:=by
   rintro rfl hm htd;rcases hk with hk|hk
   ·exact hk
   ·exfalso;cases YF with
    |base hfr hi=>
     cases hfr with
     |ret _=>cases hm
     |@run fn tmps bt todo ha cS=>
      dsimp only[Fr,iW] at htd;subst htd;have e:eM P true (G (Fr fn tmps [] .run) []) (dr lw τ lw.drawn)=.go (G (Fr fn tmps [] .returning) []) (dr lw τ lw.drawn) #[]:=rfl;obtain⟨rfl,rfl⟩:=yP hl e;have afT:=down τ MQ _ _ hl;cases afT with
      |stop h=>exact absurd (hk _ _ h) (by simp[G,Fr,iW])
      |step abL _=>
       obtain⟨g2,w2,hl2⟩:=abL _ fun _ _=>rfl;obtain⟨o,w3,es,e3⟩:=Q0 (P:=P) (lw:=dr (dr lw τ lw.drawn) (dr lw τ lw.drawn).tape (dr lw τ lw.drawn).drawn) (fn:=fn) (tmps:=tmps) (todo:=[]) hi;exact uQ hl2 e3
  have YA:WR F P.globals.size B ρ (dr lw τ lw.drawn) w1:=hw1.tape τ w1.tape lw.drawn w1.drawn;rcases aaV (main:=main) hF YA ht hG ack YF qy hE with⟨o,Yr,es,e⟩|⟨g2,Yr,es,e,hs⟩|⟨g2,ch,v,Yr,es,e,hn⟩|⟨FD,l1,Yr,es,vY,Vr,w2,evs,ρ1,e,e',ae0,qO⟩
  ·exact(uQ hl e).elim
  ·obtain⟨rfl,rfl⟩:=yP hl e;exact absurd hs (Rx hS (down τ MQ _ _ hl))
  ·exact(MB hl e hn).elim
  ·obtain⟨rfl,rfl⟩:=yP hl e;have hown:=qO.owns YA;have Xh:=qO.shared YA;refine⟨_,_,_,e',⟨qO.grow,qO.keep,qO.tape,?_,qO.os,qO.out,fun x hx=>?_⟩,rfl,rfl,?_⟩
   ·obtain⟨k1,_,h2⟩:=qO.draw;omega
   ·refine(qO.evs x hx).mono (fun c hc=>?_) fun c hc=>by rw[hown] at hc;exact hc
    obtain⟨b,hb⟩:=hc;rcases Classical.em (B b) with hlt|hge
    ·exact .inl ((V3 c).2 ((Xh c).1 ⟨b,hlt,hb⟩))
    ·right;rw[←hown];exact⟨b,hge,hb⟩
   ·rw[←hown];refine(ih τ MQ _ _ hl acj Ch (aN hG qO.Gn) rfl ae0 qO.wr (aN ack qO.grow) fun c=>(V3 c).trans (Xh c).symm).bind fun O g' w' hE=>?_;obtain⟨a1,a2,a3,a4,a5,a6,hE⟩:=hE
    exact .stop fun w3 h3=>⟨a1,a2,a3,a4,a5,a6,⟨hE.g,hE.stop,hE.sr,hE.wr.rely (by
     have:(fun c=>S c∨O c)=fun c=>(∃b,B b∧a4 b=some c)∨a4.owns B c:=by
      funext c;rw[V3 c,hE.own,hE.shared c,Xh c]
     rwa [this] at h3),aN hE.s5 h3.grow,hE.own,fun c=>(hE.shared c).trans (Xh c),Rn.le_trans qO.le hE.le,aN qO.Gn hE.grow,hE.ok⟩⟩
end
def ND(P:aI){α:Type}:gZ α→Prop
 |.pure _=>True
 |.load _ _ k=>∀v,ND P (k v)
 |.program k=>ND P (k P)
 |.halt _=>True
 |_=>False
section
variable{P:aI}{α β:Type}
theorem ND.bind{s:gZ α}{f:α→gZ β}(h:ND P s)(hf:∀a,ND P (f a)):ND P (s >>= f):=by
 show ND P (s.bind f)
 induction s with
 |pure a=>exact hf a
 |load m a k ih=>exact fun v=>ih v (h v)
 |program k ih=>exact ih P h
 |halt e=>trivial
 |_=>exact h.elim
theorem ND.run{s:gZ α}(h:ND P s)(w:ar):∀(τ:Nat→Question→Nat) (d:Nat),s.run P (dr w τ d)=aa3 (s.run P w) τ d:=by
 intro τ d
 induction s with
 |pure a=>rfl
 |load m a k ih=>
  simp only[Sem.run,oD];cases w.cell? a with
  |some v=>exact ih v (h v)
  |none=>
   simp only[uY];cases w.farLoad P a (m == .atomic) with
   |ok x=>exact ih _ (h _)
   |error e=>rfl
 |program k ih=>exact ih P h
 |halt e=>rfl
 |_=>exact h.elim
end
section
variable{P:aI}{F:Nat→Bool}{B:Nat→Prop}{ρ ρ1:Rn}{lw jJ w w1:ar}{main:Bool}
structure Kn(P:aI)(F:Nat→Bool)(B:Nat→Prop)(S:Nat→Prop)(lw0:ar)(ρ0:Rn)(O:Nat→Prop)(w':ar)(lw:ar)(ρ:Rn):Prop where
 wr:WR F P.globals.size B ρ lw w'
 s5:P.globals.size≤w'.heap.size
 own:O=ρ.owns B
 shared:∀c,S c↔∃b,B b∧ρ b=some c
 le:Rn.le ρ0 ρ
 grow:lw0.heap.size≤lw.heap.size
 ok:dw lw
theorem Kn.rely{S:Nat→Prop}{lw0:ar}{ρ0:Rn}{O:Nat→Prop}{w' w2:ar}(h:Kn P F B S lw0 ρ0 O w' lw ρ)(hr:gW (fun c=>S c∨O c) w' w2):Kn P F B S lw0 ρ0 O w2 lw ρ:=
 ⟨h.wr.rely (by
  have e:(fun c=>S c∨O c)=fun c=>(∃b,B b∧ρ b=some c)∨ρ.owns B c:=by funext c;rw[h.shared c,h.own]
  rwa [e] at hr),aN h.s5 hr.grow,h.own,h.shared,h.le,h.grow,h.ok⟩
theorem wW(T:Quiet P)(hF:sH P F)(hG:P.globals.size≤lw.heap.size){fn:dR}{kd:jy}(hE:kd≠.early)(hi:P.inits.idxOf? fn=none){c:Code}(hc:gQ P F c=true)(hc':dP c=true){tmps bt:Array aj}(ha:iu F ρ tmps bt)
  (hw:WR F P.globals.size B ρ lw w) (BI:P.globals.size≤w.heap.size) (cS:dw lw) {Q:Act→ar→Prop} (hQ:∀a W' τ d,Q a (dr W' τ d)→Q a W')
  (h:∀τ d,c.wp P (fun e a W'=>e=.normal∧Q a W') ⟨tmps,[]⟩ (dr lw τ d)) {S:Nat→Prop} (V3:∀c,S c↔∃b,B b∧ρ b=some c) (k:List oJ) (cs:List bL) :
  Walk P main S (fun O g' w'=>∃kO iL jJ ρ1,g'=G (iW fn iL k .run kd) cs∧iu F ρ1 kO iL∧Q ⟨kO,[]⟩ jJ∧Kn P F B S lw ρ O w' jJ ρ1) (ρ.owns B) (G (iW fn bt (.code c::k) .run kd) cs) w:=by
 have hb:Bar P (fun g W=>∃a1,g=G ((Fr fn #[] [] .run).at a1 []) []∧Q a1 W) (G (Fr fn tmps [.code c] .run) []) lw:=by
  refine BZ T ?_ ?_ ⟨⟨by simpa [G,Fr,iW,iw] using hc',rfl⟩,by simp[G],.inl rfl⟩ cS rfl rfl fun τ _=>?_
  ·rintro g W τ d ⟨a1,h1,h2⟩;exact⟨a1,h1,hQ _ _ _ _ h2⟩
  ·rintro g W ⟨a1,rfl,_⟩;exact⟨rfl,rfl⟩
  ·obtain⟨e,a',w',⟨rfl,hq⟩,n,hn⟩:=h τ lw.drawn (Fr fn #[] [] .run) [] [];exact⟨n,G ((Fr fn #[] [] .run).at a' []) [],w',hn,a',rfl,hq⟩
 have hns:∀g W,(∃a1,g=G ((Fr fn #[] [] .run).at a1 []) []∧Q a1 W)→¬NC g:=by
  rintro g W ⟨a1,rfl,_⟩ (hs|hs|⟨ch,hs,_⟩)
  ·exact hs rfl
  ·exact hs rfl
  ·cases hs
 have ae1:SR P F ρ k kd cs (Fr fn tmps [.code c] .run) [] (iW fn bt (.code c::k) .run kd) cs:=.base (.run (todo:=[.code c]) ha (by simpa [iv] using hc)) hi;refine(JA (main:=main) T hF hns hE (.inr ?_) hb ⟨⟨by simpa [G,Fr,iW,iw] using hc',rfl⟩,by simp[G],.inl rfl⟩ cS hG rfl ae1 hw BI V3).bind fun O g' w' hE=>?_
 ·rintro g W ⟨a1,rfl,_⟩;rfl
 obtain⟨FD,l1,jJ,ρ1,vY,Vr,hE⟩:=hE;obtain⟨a1,hg,hq⟩:=hE.stop
 have hfl:FD=(Fr fn #[] [] .run).at a1 []∧l1=[]:=by
  have h1:(G FD l1).frame=(G ((Fr fn #[] [] .run).at a1 []) []).frame:=by rw[hg]
  have h2:(G FD l1).callers=(G ((Fr fn #[] [] .run).at a1 []) []).callers:=by rw[hg]
  exact⟨h1,h2⟩
 obtain⟨h1,rfl⟩:=hfl;have afs:Kn P F B S lw ρ O w' jJ ρ1:=⟨hE.wr,hE.s5,hE.own,fun c=>(V3 c).trans (hE.shared c).symm,hE.le,hE.grow,hE.ok⟩
 have YF:=hE.sr;have D9:=hE.g;generalize afI:([]:List bL)=l1 at YF;cases YF with
 |up _ _ _ _=>cases afI
 |base hfr hin=>
  cases hfr with
  |@ret fn1 kO iL WY aeu Rj=>cases congrArg Frame.mode h1
  |@run fn1 kO iL WY Rj hto=>
   have e1:fn1=fn:=congrArg Frame.fn h1;have e2:kO=a1.tmps:=congrArg Frame.tmps h1;have e3:WY=[]:=congrArg Frame.todo h1;have e4:([]:List Deferred)=a1.defers:=congrArg Frame.defers h1;subst e1;subst e3;refine .stop fun w2 hr=>⟨kO,iL,jJ,ρ1,D9,Rj,?_,afs.rely hr⟩
   rw[e2,e4];exact hq
end
def Cc:Loc→Option Nat
 |.cell a=>some a.block
 |.obj r=>some r
 |_=>none
structure PT(A:Nat→Prop)(S O:Nat→Nat→Prop)(B:Nat)(t:Trace):Prop where
 clean:∀said,¬Race said t
 known:∀i a c,touchAt t i=some a→Cc a.loc=some c→Knows t 0 i∨∃g,A g∧t.g? i=some g∧(O g c∨(a.write=false∧S g c))
 wk:∀g,A g→∀i a c,touchAt t i=some a→Cc a.loc=some c→S g c→a.write=true→Knows t g i
 ow:∀g,A g→∀i a c,touchAt t i=some a→Cc a.loc=some c→O g c→t.g? i=some g
 over:∀i g,t.g? i=some g→g≠0→t.counts i→(∃j,t.g? j=some 0∧HappensBefore t i j)∨A g
 hears:Deaf t 0=0
 sZ:∀g,A g→Deaf t g=0
 seen:∀op∈t,op.act.low B
 pos:∀g,A g→g≠0
section
variable{A A':Nat→Prop}{S O S' O':Nat→Nat→Prop}{B B':Nat}{t u:Trace}
theorem DR{l:Loc}:l.isMemory=true↔∃c,Cc l=some c:=by
 cases l<;>simp[Loc.isMemory,Cc]
theorem Kc{l:Loc}{c:Nat}(h:Cc l=some c)(hl:l.low B):c<B:=by
 cases l<;>simp only[Cc,gq,reduceCtorEq] at h
 ·subst h;exact hl
 ·subst h;exact hl
theorem Pe{op:MemOp}{x:Touch}{c:Nat}(h:op.act.touch?=some x)(hc:Cc x.loc=some c)(hl:op.act.low B):c<B:=by
 obtain⟨g,fn,pos,act⟩:=op;cases act with
 |access e=>
  simp only[MemAct.touch?,gq] at h;subst h;exact Kc hc hl
 |mark m=>
  cases m<;>simp only[MemAct.touch?,gq,reduceCtorEq] at h<;>(subst h;exact Kc hc hl)
 |_=>cases h
theorem PT.Vg(h:Lx B t):PT (fun _=>False) S O B t:=by
 refine⟨h.clean,fun i a c ha hc=>.inl ?_,fun g hg=>hg.elim,fun g hg=>hg.elim,fun i g h1 h2 h3=>.inl (h.over i g h1 h2 h3),h.hears,fun g hg=>hg.elim,h.seen,fun g hg=>hg.elim⟩;rcases h.known i a ha (DR.2 ⟨c,hc⟩) with hk|⟨hs,_⟩
 ·exact hk
 ·exact hs.elim
theorem PT.past(h:PT A S O B t)(hA:∀g,¬A g):Lx B t:=by
 refine⟨h.clean,fun i a ha hm=>.inl ?_,fun i g h1 h2 h3=>(h.over i g h1 h2 h3).resolve_right (hA g),h.hears,h.seen⟩;obtain⟨c,hc⟩:=DR.1 hm;rcases h.known i a c ha hc with hk|⟨g,hg,_⟩
 ·exact hk
 ·exact(hA g hg).elim
theorem PT.mono(h:PT A S O B t)(hB:B≤B'):PT A S O B' t:=⟨h.clean,h.known,h.wk,h.ow,h.over,h.hears,h.sZ,fun op hop=>MemAct.low_mono hB (h.seen op hop),h.pos⟩
theorem PT.lt(h:PT A S O B t){i:Nat}{a:Touch}{c:Nat}(ha:touchAt t i=some a)(hc:Cc a.loc=some c):c<B:=by
 obtain⟨x,hx,wI⟩:=touch_of ha;exact Pe wI hc (h.seen x (mem_of_getElem? hx))
theorem g?_app{i:Nat}{g:Nat}(h:t.g? i=some g):(t++u).g? i=some g:=by
 obtain⟨x,hx,hg⟩:=eu.1 h;rw[g?_old (lt_size_of_getElem? hx)];exact h
def Jg(R W:Nat→Prop)(op:MemOp):Prop:=∀x,op.act.touch?=some x→x.kind=.plain∧∃c,Cc x.loc=some c∧R c∧(x.write=true→W c)
def nP(op:MemOp):Prop:=op.act≠.mark .disable∧op.act≠.mark .enable
theorem gX(t:Trace)(g:Nat)(u:Trace)(hu:∀op∈u,nP op):Deaf (t++u) g=Deaf t g:=by
 have key:∀(l:List MemOp) (d:Nat),(∀op∈l,nP op)→l.foldl (deafStep g) d=d:=by
  intro l
  induction l with
  |nil=>intro d _;rfl
  |cons y l ih=>
   intro d hl;have hy:=hl y (by simp);rw[List.foldl_cons]
   have:deafStep g d y=d:=by
    unfold deafStep;split
    ·rename_i e;exact absurd e hy.1
    ·rename_i e;exact absurd e hy.2
    ·rfl
   rw[this];exact ih d fun op hop=>hl op (by simp[hop])
 have:=Deaf_append t g u.toList;simp only[Array.toArray_toList] at this;rw[this];exact key _ _ fun op hop=>hu op (by simpa using hop)
theorem qV{i:Nat}(hi:i<t.size):(t++u).counts i→t.counts i:=by
 rintro⟨x,hx,hm,hk⟩;refine⟨x,?_,hm,?_⟩
 ·rw[act?_old hi] at hx;exact hx
 ·exact hk.imp id fun h=>(heard_old hi).1 h
theorem zn{i:Nat}(h:t.counts i):∃x c,touchAt t i=some x∧Cc x.loc=some c:=by
 obtain⟨x,hx,hm,_⟩:=h;obtain⟨c,hc⟩:=DR.1 hm;exact⟨x,c,hx,hc⟩
theorem PT.app0(h:PT A S O B t){R W:Nat→Prop}(hB:B≤B')(hu:∀op∈u,op.g=0∧Jg R W op∧nP op∧op.act.low B')(hR:∀g,A g→∀c,R c→¬O g c)(hW:∀g,A g→∀c,W c→¬S g c):PT A S O B' (t++u):=by
 refine⟨fun said=>noRace_append (h.clean said) (fun op hop=>(hu op hop).1) fun i a ha op hop b hb hc=>?_,fun i a c ha hc=>?_,fun g hg i a c ha hc hs hw=>?_,fun g hg i a c ha hc ho=>?_,fun i g h1 h2 h3=>?_,?_,fun g hg=>?_,?_,h.pos⟩
 ·obtain⟨_,c,Xy,hr,hwr⟩:=(hu op hop).2.1 b hb;rcases h.known i a c ha (hc.1▸Xy) with hk|⟨g,hg,_,Kq⟩
  ·exact hk
  ·rcases Kq with ho|⟨hw,hs⟩
   ·exact absurd ho (hR g hg c hr)
   ·have uo:b.write=true:=by
     rcases hc.2.2.1 with h1|h1
     ·rw[hw] at h1;cases h1
     ·exact h1
    exact absurd hs (hW g hg c (hwr uo))
 ·obtain⟨x,hx,wI⟩:=touch_of ha;rcases gR hx with⟨hi,hx'⟩|⟨_,Gs⟩
  ·rcases h.known i a c (by rw[touchAt_of hx'];exact wI) hc with hk|⟨g,hg,MO,Kq⟩
   ·exact .inl (hk.app u)
   ·exact .inr ⟨g,hg,g?_app MO,Kq⟩
  ·have:=knows_own hx;rw[(hu x Gs).1] at this;exact .inl this
 ·obtain⟨x,hx,wI⟩:=touch_of ha;rcases gR hx with⟨hi,hx'⟩|⟨_,Gs⟩
  ·exact(h.wk g hg i a c (by rw[touchAt_of hx'];exact wI) hc hs hw).app u
  ·obtain⟨_,c',hc',_,hwr⟩:=(hu x Gs).2.1 a wI;rw[hc] at hc';cases hc';exact absurd hs (hW g hg c (hwr hw))
 ·obtain⟨x,hx,wI⟩:=touch_of ha;rcases gR hx with⟨hi,hx'⟩|⟨_,Gs⟩
  ·exact g?_app (h.ow g hg i a c (by rw[touchAt_of hx'];exact wI) hc ho)
  ·obtain⟨_,c',hc',hr,_⟩:=(hu x Gs).2.1 a wI;rw[hc] at hc';cases hc';exact absurd ho (hR g hg c hr)
 ·obtain⟨x,hx,Ir⟩:=eu.1 h1;rcases gR hx with⟨hi,hx'⟩|⟨_,Gs⟩
  ·rcases h.over i g (by rw[←g?_old (u:=u) hi];exact h1) h2 (qV hi h3) with⟨j,hj,hb⟩|hA
   ·exact .inl ⟨j,g?_app hj,hb_app u hb⟩
   ·exact .inr hA
  ·rw[(hu x Gs).1] at Ir;exact absurd Ir.symm h2
 ·rw[gX _ _ _ fun op hop=>(hu op hop).2.2.1];exact h.hears
 ·rw[gX _ _ _ fun op hop=>(hu op hop).2.2.1];exact h.sZ g hg
 ·exact seen_app (fun op hop=>MemAct.low_mono hB (h.seen op hop)) fun op hop=>(hu op hop).2.2.2
theorem PT.appW(h:PT A S O B t){k:Nat}(hk:A k){W:Nat→Prop}(hB:B≤B')(hu:∀op∈u,op.g=k∧Jg (fun c=>S k c∨W c) W op∧nP op∧op.act.low B')
  (hW:∀c,W c→O k c∨B≤c) (hO:∀c,O k c→W c) (sI:∀c,W c→¬S k c) (hg:∀g,A g→g≠k→∀c,W c→¬S g c∧¬O g c) (hs:∀g,A g→g≠k→∀c,S k c→¬O g c) :
  PT A S (fun g=>if g=k then W else O g) B' (t++u):=by
 refine⟨fun said=>noRace_append (h.clean said) (fun op hop=>(hu op hop).1) fun i a ha op hop b hb hc=>?_,fun i a c ha hc=>?_,fun g MP i a c ha hc hs' hw=>?_,fun g MP i a c ha hc ho=>?_,fun i g h1 h2 h3=>?_,?_,fun g MP=>?_,?_,h.pos⟩
 ·obtain⟨_,c,Xy,hr,hwr⟩:=(hu op hop).2.1 b hb;have hac:Cc a.loc=some c:=hc.1▸Xy;have hlt:=h.lt ha hac
  have own:O k c→Knows t k i:=fun ho=>by
   have:=h.ow k hk i a c ha hac ho;obtain⟨x,hx,Ir⟩:=eu.1 this;have:=knows_own hx;rwa [Ir] at this
  rcases hr with hr|hr
  ·rcases hc.2.2.1 with h1|h1
   ·exact h.wk k hk i a c ha hac hr h1
   ·exact absurd hr (sI c (hwr h1))
  ·rcases hW c hr with ho|hge
   ·exact own ho
   ·omega
 ·obtain⟨x,hx,wI⟩:=touch_of ha;rcases gR hx with⟨hi,hx'⟩|⟨_,Gs⟩
  ·rcases h.known i a c (by rw[touchAt_of hx'];exact wI) hc with qg|⟨g,MP,MO,Kq⟩
   ·exact .inl (qg.app u)
   ·refine .inr ⟨g,MP,g?_app MO,Kq.imp (fun ho=>?_) id⟩
    by_cases e:g=k
    ·subst e;simp only[if_true];exact hO c ho
    ·simp only[e,if_false];exact ho
  ·obtain⟨_,c',hc',hr,hwr⟩:=(hu x Gs).2.1 a wI;rw[hc] at hc';cases hc';refine .inr ⟨k,hk,by simp only[Trace.g?,hx,dH];rw[(hu x Gs).1],?_⟩;simp only[if_true];rcases hr with hr|hr
   ·cases hw:a.write with
    |false=>exact .inr ⟨rfl,hr⟩
    |true=>exact .inl (hwr hw)
   ·exact .inl hr
 ·obtain⟨x,hx,wI⟩:=touch_of ha;rcases gR hx with⟨hi,hx'⟩|⟨_,Gs⟩
  ·exact(h.wk g MP i a c (by rw[touchAt_of hx'];exact wI) hc hs' hw).app u
  ·obtain⟨_,c',hc',_,hwr⟩:=(hu x Gs).2.1 a wI;rw[hc] at hc';cases hc'
   by_cases e:g=k
   ·subst e;exact absurd hs' (sI c (hwr hw))
   ·exact absurd hs' (hg g MP e c (hwr hw)).1
 ·obtain⟨x,hx,wI⟩:=touch_of ha
  by_cases e:g=k
  ·subst e;simp only[if_true] at ho;rcases gR hx with⟨hi,hx'⟩|⟨_,Gs⟩
   ·have ha':touchAt t i=some a:=by rw[touchAt_of hx'];exact wI
    rcases hW c ho with YP|hge
    ·exact g?_app (h.ow g MP i a c ha' hc YP)
    ·have:=h.lt ha' hc;omega
   ·simp only[Trace.g?,hx,dH];rw[(hu x Gs).1]
  ·simp only[e,if_false] at ho;rcases gR hx with⟨hi,hx'⟩|⟨_,Gs⟩
   ·exact g?_app (h.ow g MP i a c (by rw[touchAt_of hx'];exact wI) hc ho)
   ·obtain⟨_,c',hc',hr,_⟩:=(hu x Gs).2.1 a wI;rw[hc] at hc';cases hc';rcases hr with hr|hr
    ·exact absurd ho (hs g MP e c hr)
    ·exact absurd ho (hg g MP e c hr).2
 ·obtain⟨x,hx,Ir⟩:=eu.1 h1;rcases gR hx with⟨hi,hx'⟩|⟨_,Gs⟩
  ·rcases h.over i g (by rw[←g?_old (u:=u) hi];exact h1) h2 (qV hi h3) with⟨j,hj,hb⟩|hA
   ·exact .inl ⟨j,g?_app hj,hb_app u hb⟩
   ·exact .inr hA
  ·rw[(hu x Gs).1] at Ir;exact .inr (Ir▸hk)
 ·rw[gX _ _ _ fun op hop=>(hu op hop).2.2.1];exact h.hears
 ·rw[gX _ _ _ fun op hop=>(hu op hop).2.2.1];exact h.sZ g MP
 ·exact seen_app (fun op hop=>MemAct.low_mono hB (h.seen op hop)) fun op hop=>(hu op hop).2.2.2
theorem eP(hn:∀op∈u,op.act.touch?=none){i:Nat}{a:Touch}(h:touchAt (t++u) i=some a):i<t.size∧touchAt t i=some a:=by
 obtain⟨x,hx,wI⟩:=touch_of h;rcases gR hx with⟨hi,hx'⟩|⟨_,Gs⟩
 ·exact⟨hi,by rw[touchAt_of hx'];exact wI⟩
 ·rw[hn x Gs] at wI;cases wI
theorem Bz(h:∀said,¬Race said t)(hn:∀op∈u,op.act.touch?=none)(said:Bool):¬Race said (t++u):=by
 rintro⟨i,j,UC,⟨a,b,ha,hb,hc⟩,n1,n2⟩;obtain⟨hi,ha'⟩:=eP hn ha;obtain⟨hj,hb'⟩:=eP hn hb;exact h said ⟨i,j,UC,⟨a,b,ha',hb',hc⟩,fun e=>n1 (hb_app u e),fun e=>n2 (hb_app u e)⟩
theorem PT.appMute(h:PT A S O B t)(hB:B≤B')(hn:∀op∈u,op.act.touch?=none∧nP op∧op.act.low B')(hA:∀g,A' g→A g)(hK:∀g,A g→¬A' g→∀i,Knows t g i→Knows (t++u) 0 i∧∃j,(t++u).g? j=some 0∧HappensBefore (t++u) i j):PT A' S O B' (t++u):=by
 have hn':=fun op hop=>(hn op hop).1;refine⟨Bz h.clean hn',fun i a c ha hc=>?_,fun g hg i a c ha hc hs hw=>?_,fun g hg i a c ha hc ho=>?_,fun i g h1 h2 h3=>?_,?_,fun g hg=>?_,?_,fun g hg=>h.pos g (hA g hg)⟩
 ·obtain⟨hi,ha'⟩:=eP hn' ha;rcases h.known i a c ha' hc with hk|⟨g,hg,MO,Kq⟩
  ·exact .inl (hk.app u)
  ·by_cases E8:A' g
   ·exact .inr ⟨g,E8,g?_app MO,Kq⟩
   ·obtain⟨x,hx,Ir⟩:=eu.1 MO;have hkn:=knows_own hx;rw[Ir] at hkn;exact .inl (hK g hg E8 i hkn).1
 ·obtain⟨hi,ha'⟩:=eP hn' ha;exact(h.wk g (hA g hg) i a c ha' hc hs hw).app u
 ·obtain⟨hi,ha'⟩:=eP hn' ha;exact g?_app (h.ow g (hA g hg) i a c ha' hc ho)
 ·obtain⟨x,c,hx,_⟩:=zn h3;obtain⟨hi,_⟩:=eP hn' hx;have MO:t.g? i=some g:=by rw[←g?_old (u:=u) hi];exact h1
  rcases h.over i g MO h2 (qV hi h3) with⟨j,hj,hb⟩|MP
  ·exact .inl ⟨j,g?_app hj,hb_app u hb⟩
  ·by_cases E8:A' g
   ·exact .inr E8
   ·obtain⟨x,hx,Ir⟩:=eu.1 MO;have hkn:=knows_own hx;rw[Ir] at hkn;exact .inl (hK g MP E8 i hkn).2
 ·rw[gX _ _ _ fun op hop=>(hn op hop).2.1];exact h.hears
 ·rw[gX _ _ _ fun op hop=>(hn op hop).2.1];exact h.sZ g (hA g hg)
 ·exact seen_app (fun op hop=>MemAct.low_mono hB (h.seen op hop)) fun op hop=>(hn op hop).2.2
end
section
variable{A A':Nat→Prop}{S O S' O':Nat→Nat→Prop}{B B':Nat}{t u:Trace}
theorem TP{g:Nat}(hu:∀op∈u,nP op):∀m,m≤u.size→(t++u).deaf g (t.size+m)=Deaf t g:=by
 intro m
 induction m with
 |zero=>intro _;exact deaf_old (ax _)
 |succ m ih=>
  intro hm
  have Y3:(t++u)[t.size+m]?=some u[m]:=by
   rw[Array.getElem?_append_right (by omega),rL,aM (by omega)]
  rw[show t.size+(m+1)=t.size+m+1 by omega,deaf_succ Y3,ih (by omega)];have hy:=hu u[m] (Array.getElem_mem _);unfold deafStep;split
  ·rename_i e;exact absurd e hy.1
  ·rename_i e;exact absurd e hy.2
  ·rfl
theorem heard_new(hu:∀op∈u,nP op){m:Nat}{x:MemOp}(hx:u[m]?=some x)(hd:Deaf t x.g=0):(t++u).heard (t.size+m):=by
 have hm:m<u.size:=(ak.1 hx).1;refine⟨x.g,?_,?_⟩
 ·rw[Trace.g?,Array.getElem?_append_right (by omega),rL,hx];rfl
 ·rw[TP hu m (by omega)];exact hd
theorem Tj(hu:∀op∈u,nP op){k c n m m':Nat}{x y:MemOp}(hx:u[m]?=some x)(hy:u[m']?=some y)(SS:x.g=k)(wI:x.act=.send c n)(Ov:y.g=0)(hya:y.act=.recvDone c n)
  (LJ:Deaf t k=0) (hd0:Deaf t 0=0) {i:Nat} (h:Knows t k i):Knows (t++u) 0 i∧∃j,(t++u).g? j=some 0∧HappensBefore (t++u) i j:=by
 have hxp:(t++u)[t.size+m]?=some x:=by rw[Array.getElem?_append_right (by omega),rL,hx]
 have hyp:(t++u)[t.size+m']?=some y:=by rw[Array.getElem?_append_right (by omega),rL,hy]
 have h1:=h.hb_new (by omega) hxp SS;have e:HappensBefore (t++u) (t.size+m) (t.size+m'):=.single (.inr ⟨.handOver (c:=c) (k:=n) (by rw[act?_of hxp,wI]) (by rw[act?_of hyp,hya]),heard_new hu hx (by rw[SS];exact LJ),heard_new hu hy (by rw[Ov];exact hd0)⟩);have h2:=h1.trans e;exact⟨⟨_,y,hyp,Ov,.inr h2⟩,_,by simp[Trace.g?,hyp,Ov],h2⟩
def G7(k c n:Nat)(u:Trace):Prop:=∃f1 p1 f2 p2 f3 p3 f4 p4 cap,u = #[{ g:=k,fn:=f1,pos:=p1,act:=.send c n },{ g:=0,fn:=f2,pos:=p2,act:=.recv c n cap },{ g:=k,fn:=f3,pos:=p3,act:=.sendDone c n },{ g:=0,fn:=f4,pos:=p4,act:=.recvDone c n }]
theorem G7.mute{k c n:Nat}(h:G7 k c n u)(hc:c<B'):∀op∈u,op.act.touch?=none∧nP op∧op.act.low B':=by
 obtain⟨f1,p1,f2,p2,f3,p3,f4,p4,cap,rfl⟩:=h;intro op hop;simp only[eF,bR,gh,or_false] at hop;rcases hop with rfl|rfl|rfl|rfl<;>exact⟨rfl,⟨by simp,by simp⟩,hc⟩
theorem PT.aaY(h:PT A S O B t)(hB:B≤B'){k c n:Nat}(hu:G7 k c n u)(hc:c<B')(hk:A k)(hA:∀g,A' g↔A g∨False):PT A' S O B' (t++u):=
 h.appMute hB (hu.mute hc) (fun g hg=>((hA g).1 hg).resolve_right id) fun g hg hn=>absurd ((hA g).2 (.inl hg)) hn
theorem PT.Ps(h:PT A S O B t)(hB:B≤B'){k c n:Nat}(hu:G7 k c n u)(hc:c<B')(hk:A k):PT (fun g=>A g∧g≠k) S O B' (t++u):=by
 refine h.appMute hB (hu.mute hc) (fun g hg=>hg.1) fun g hg hn i hkn=>?_;have e:g=k:=Classical.byContradiction fun e=>hn ⟨hg,e⟩;subst e;have hw:=fun op hop=>(hu.mute hc op hop).2.1;have hd0:=h.hears;have LJ:=h.sZ g hk;obtain⟨f1,p1,f2,p2,f3,p3,f4,p4,cap,rfl⟩:=hu;exact Tj hw (m:=0) (m':=3) rfl rfl rfl rfl rfl rfl LJ hd0 hkn
theorem PT.spawn(h:PT A S O B t)(hB:B≤B'){k:Nat}(hk:¬A k)(hk0:k≠0)(LJ:Deaf t k=0){x y:MemOp}(hx:x.g=0∧x.act=.go k)(hy:y.g=k∧y.act=.start){Sk:Nat→Prop}(hs:∀g,A g→∀c,Sk c→¬O g c) :
  PT (fun g=>A g∨g=k) (fun g=>if g=k then Sk else S g) (fun g=>if g=k then fun _=>False else O g) B' (t++#[x,y]):=by
 have hn:∀op∈#[x,y],op.act.touch?=none∧nP op∧op.act.low B':=by
  intro op hop;simp only[eF,bR,gh,or_false] at hop;rcases hop with rfl|rfl
  ·rw[hx.2];exact⟨rfl,⟨by rw[hx.2];simp,by rw[hx.2];simp⟩,trivial⟩
  ·rw[hy.2];exact⟨rfl,⟨by rw[hy.2];simp,by rw[hy.2];simp⟩,trivial⟩
 have hn':=fun op hop=>(hn op hop).1;have h1:PT A S O B' (t++#[x,y]):=h.appMute hB hn (fun g hg=>hg) fun g hg hn=>absurd hg hn;have hne:∀g,A g→g≠k:=fun g hg e=>hk (e▸hg);refine⟨h1.clean,fun i a c ha hc=>?_,fun g hg i a c ha hc hs' hw=>?_,fun g hg i a c ha hc ho=>?_,fun i g e1 e2 e3=>(h1.over i g e1 e2 e3).imp id .inl,h1.hears,fun g hg=>?_,h1.seen,fun g hg=>?_⟩
 ·rcases h1.known i a c ha hc with qg|⟨g,hg,MO,Kq⟩
  ·exact .inl qg
  ·exact .inr ⟨g,.inl hg,MO,by simpa only[hne g hg,if_false] using Kq⟩
 ·by_cases e:g=k
  ·subst e;simp only[if_true] at hs';obtain⟨_,ha'⟩:=eP hn' ha;rcases h.known i a c ha' hc with qg|⟨g',E8,_,Kq⟩
   ·exact Go.ConcN.fork_knows hx hy h.hears LJ qg
   ·rcases Kq with ho|⟨hw',_⟩
    ·exact absurd ho (hs g' E8 c hs')
    ·rw[hw] at hw';cases hw'
  ·simp only[e,if_false] at hs';exact h1.wk g (hg.resolve_right e) i a c ha hc hs' hw
 ·by_cases e:g=k
  ·simp only[e,if_true] at ho
  ·simp only[e,if_false] at ho;exact h1.ow g (hg.resolve_right e) i a c ha hc ho
 ·rcases hg with hg|rfl
  ·exact h1.sZ g hg
  ·rw[gX _ _ _ fun op hop=>(hn op hop).2.1];exact LJ
 ·rcases hg with hg|rfl
  ·exact h1.pos g hg
  ·exact hk0
end
section
variable{P:aI}
theorem EC(q:Question){α:Type}(f:Nat→gZ α)(n:Nat)(hn:0<n)(hq:q=.select n∨∃what,q=.extern what n)(w:ar):∃a d,a<n∧(zJ q >>= f).run P w=(f a).run P (w.at d):=by
 have e:(zJ q >>= f).run P w=if q.forced then(f 0).run P w else(f (q.cut (w.tape w.drawn q))).run P { w with drawn:=w.drawn+1 }:=rfl
 rw[e]
 by_cases hf:q.forced=true
 ·exact⟨0,w.drawn,hn,by rw[if_pos hf];rfl⟩
 ·refine⟨_,w.drawn+1,?_,by rw[if_neg hf];rfl⟩;rcases hq with rfl|⟨what,rfl⟩
  ·simp only[Question.cut];exact Nat.mod_lt _ hn
  ·simp only[Question.cut];rw[if_neg (by omega)];exact Nat.mod_lt _ hn
def Hw(ready:List (Nat × mD × List Way)):gZ (Nat × mD × Way):=do
 let a ←zJ (.select ready.length);let (k,c,ws):=ready.getD a (0,default,[])
 let b ←zJ (.extern "which waiting goroutine is the partner" ws.length)
 pure (k,c,ws.getD b .closed)
theorem RS(ready:List (Nat × mD × List Way))(hne:ready≠[])(hw:∀x∈ready,x.2.2≠[])(w:ar) :
  ∃x∈ready,∃y∈x.2.2,∃d,(Hw ready).run P w=.ok (x.1,x.2.1,y) (w.at d):=by
 unfold Hw
 obtain⟨a,d,ha,e⟩:=EC (P:=P) (.select ready.length) (fun a=>do
  let (k,c,ws):=ready.getD a (0,default,[])
  let b ←zJ (.extern "which waiting goroutine is the partner" ws.length)
  pure (k,c,ws.getD b .closed)) ready.length (cX.2 hne) (.inl rfl) w
 rw[e];have hx:ready.getD a (0,default,[])=ready[a]:=by simp[List.getD,ha]
 rw[hx];have hmem:ready[a]∈ready:=cu ha;generalize ready[a]=x at hmem;obtain⟨k,c,ws⟩:=x;have Jn:=hw _ hmem;dsimp only at Jn ⊢
 obtain⟨b,d',hb,e2⟩:=EC (P:=P) (.extern "which waiting goroutine is the partner" ws.length) (fun b=>(pure (k,c,ws.getD b .closed):gZ (Nat × mD × Way))) ws.length (cX.2 Jn) (.inr ⟨_,rfl⟩) (w.at d);refine⟨_,hmem,ws[b],cu hb,d',?_⟩;rw[e2];have:ws.getD b .closed=ws[b]:=by simp[List.getD,hb]
 rw[this];rfl
variable{gs:Array aB}{w w₁:ar}{sl:Option (Nat × Nat)}{i:Nat}{g g₂:aB}{es:Array fP}{c0 c1 s0 r0 s1 r1:Nat}{t0 t1:Bool}{z0 z1:aj}
theorem rN{w:ar}{gs:Array aB}{c s r:Nat}{tm:Bool}{z:aj}(hc:w.heap[c]?=some (.chan 0 #[] false s r tm)):ways w gs (rcase c z)=(wA gs c true).map fun(h,k)=>Way.partner h k:=by
 simp only[ways,rcase,hc];cases wA gs c true with
 |nil=>simp
 |cons p ps=>simp
theorem FH(hi:gs[i]?=some g)(h:eM P (i==0) g w=.comm g₂ #[rcase c0 z0,rcase c1 z1] true .select w₁ es)
  (h0:w₁.heap[c0]?=some (.chan 0 #[] false s0 r0 t0)) (h1:w₁.heap[c1]?=some (.chan 0 #[] false s1 r1 t1))
  (hne:wA (gs.setIfInBounds i ph) c0 true≠[]∨wA (gs.setIfInBounds i ph) c1 true≠[])
  (hall:∀c,c=c0∨c=c1→∀j k,(j,k)∈wA (gs.setIfInBounds i ph) c true→k=0∧j≠i∧∃gj vj zj shj,gs[j]?=some (ia gj #[nj c vj zj] shj)) :
  ∃(kk c s r:Nat) (tm:Bool) (j:Nat) (gj:aB) (vj zj:aj) (shj:CommShape) (d:Nat),((kk=0∧c=c0∧s=s0∧r=r0∧tm=t0)∨(kk=1∧c=c1∧s=s1∧r=r1∧tm=t1))∧j≠i∧gs[j]?=some (ia gj #[nj c vj zj] shj)∧
   runT P (crowd gs w sl) i=(.next (crowd ((gs.setIfInBounds j (gj.finishComm P #[nj c vj zj] shj 0 af false)).setIfInBounds i (g₂.finishComm P #[rcase c0 z0,rcase c1 z1] .select kk vj true)) ((w₁.at d).setChan c 0 #[] false (s+1) (r+1) tm) sl),
    ic i g.frame.fn g.frame.place es++#[{ g:=j,fn:=gj.frame.fn,pos:=gj.frame.place,act:=.send c s },{ g:=i,fn:=g₂.frame.fn,pos:=g₂.frame.place,act:=.recv c r 0 },
     { g:=j,fn:=gj.frame.fn,pos:=gj.frame.place,act:=.sendDone c s },{ g:=i,fn:=g₂.frame.fn,pos:=g₂.frame.place,act:=.recvDone c r }]):=by
 have hw0:=rN (gs:=gs.setIfInBounds i ph) (z:=z0) h0;have hw1:=rN (gs:=gs.setIfInBounds i ph) (z:=z1) h1;generalize hL:((#[rcase c0 z0,rcase c1 z1].zipIdx.toList.map fun(c,k)=>(k,c,ways w₁ (gs.setIfInBounds i ph) c)).filter fun(_,_,ws)=>!ws.isEmpty)=L
 have hmem:∀x,x∈L↔(x=(0,rcase c0 z0,ways w₁ (gs.setIfInBounds i ph) (rcase c0 z0))∨x=(1,rcase c1 z1,ways w₁ (gs.setIfInBounds i ph) (rcase c1 z1)))∧x.2.2≠[]:=by
  intro x;rw[←hL];simp[List.mem_filter]
 have acH:L≠[]:=by
  intro e;rcases hne with hn|hn
  ·have:=(hmem _).2 ⟨.inl rfl,by rw[hw0];simpa using hn⟩;rw[e] at this;cases this
  ·have:=(hmem _).2 ⟨.inr rfl,by rw[hw1];simpa using hn⟩;rw[e] at this;cases this
 obtain⟨x,hx,y,hy,d,Xk⟩:=RS (P:=P) L acH (fun x hx=>((hmem x).1 hx).2) w₁
 have YY : #[rcase c0 z0,rcase c1 z1].any (illMade w₁)=false:=by
  refine any_ill fun cc hcc=>?_;simp only[eF,bR,gh,or_false] at hcc;rcases hcc with rfl|rfl
  ·exact made_recv z0 h0
  ·exact made_recv z1 h1
 have key:∀(kk c s r:Nat) (tm:Bool) (z:aj),w₁.heap[c]?=some (.chan 0 #[] false s r tm)→(c=c0∨c=c1)→∀y,y∈((wA (gs.setIfInBounds i ph) c true).map fun(h,k)=>Way.partner h k)→(Hw L).run P w₁=.ok (kk,rcase c z,y) (w₁.at d)→
   ∃(j:Nat) (gj:aB) (vj zj:aj) (shj:CommShape),j≠i∧gs[j]?=some (ia gj #[nj c vj zj] shj)∧
   runT P (crowd gs w sl) i=(.next (crowd ((gs.setIfInBounds j (gj.finishComm P #[nj c vj zj] shj 0 af false)).setIfInBounds i (g₂.finishComm P #[rcase c0 z0,rcase c1 z1] .select kk vj true)) ((w₁.at d).setChan c 0 #[] false (s+1) (r+1) tm) sl),
    ic i g.frame.fn g.frame.place es++#[{ g:=j,fn:=gj.frame.fn,pos:=gj.frame.place,act:=.send c s },{ g:=i,fn:=g₂.frame.fn,pos:=g₂.frame.place,act:=.recv c r 0 },
     { g:=j,fn:=gj.frame.fn,pos:=gj.frame.place,act:=.sendDone c s },{ g:=i,fn:=g₂.frame.fn,pos:=g₂.frame.place,act:=.recvDone c r }]):=by
  intro kk c s r tm z hc hcc y hy Rh;obtain⟨⟨j,k⟩,hjk,rfl⟩:=dc.1 hy;obtain⟨rfl,UC,gj,vj,zj,shj,hj⟩:=hall c hcc j k hjk;refine⟨j,gj,vj,zj,shj,UC,hj,?_⟩;have hj':=stand_get (i:=i) UC hj;have hfp:=finishPartner_at P (gs.setIfInBounds i ph) hj' (cs:=#[nj c vj zj]) (sh:=shj) rfl 0 af;have hgd:(gs.setIfInBounds i ph).getD j default=ia gj #[nj c vj zj] shj:=by rw[Array.getD_eq_getD_getElem?,hj'];rfl
  have iU:offeredValue (gs.setIfInBounds i ph) j 0=vj:=by simp[offeredValue,hj',ia,nj]
  rw[Go.Conc.runT_crowd_comm hi h];unfold communicate;unfold Hw at Rh
  have hLe:L.isEmpty=false:=by cases L with
   |nil=>exact absurd rfl acH
   |cons a l=>rfl
  simp only[hL,hLe,bu,if_false,Rh];have hcd:(w₁.at d).heap[c]?=some (.chan 0 #[] false s r tm):=hc;rw[if_neg]
  ·simp[rcase,hcd,hfp,hgd,iU,set_stand2,nj,ia,World.setChan,crowd];rfl
  ·rw[Bool.not_eq_true];exact YY
 rcases((hmem x).1 hx).1 with rfl|rfl
 ·obtain⟨j,gj,vj,zj,shj,h5,h6,h7⟩:=key 0 c0 s0 r0 t0 z0 h0 (.inl rfl) y (by rw[←hw0];exact hy) Xk;exact⟨0,c0,s0,r0,t0,j,gj,vj,zj,shj,d,.inl ⟨rfl,rfl,rfl,rfl,rfl⟩,h5,h6,h7⟩
 ·obtain⟨j,gj,vj,zj,shj,h5,h6,h7⟩:=key 1 c1 s1 r1 t1 z1 h1 (.inr rfl) y (by rw[←hw1];exact hy) Xk;exact⟨1,c1,s1,r1,t1,j,gj,vj,zj,shj,d,.inr ⟨rfl,rfl,rfl,rfl,rfl⟩,h5,h6,h7⟩
end
inductive oI{α:Type}(R:α→α→Prop):List α→List α→Prop
 |nil:oI R [] []
 |cons {x y:α} {l m:List α}:R x y→oI R l m→oI R (x::l) (y::m)
inductive LT{α:Type}(D E:α→α→Prop):List α→List α→Prop
 |drop {x:α} {l l':List α}:oI E l' l→LT D E l' (x::l)
 |head {x x':α} {l l':List α}:D x' x→oI E l' l→LT D E (x'::l') (x::l)
 |tail {x x':α} {l l':List α}:E x' x→LT D E l' l→LT D E (x'::l') (x::l)
section
variable{α:Type}{D E:α→α→Prop}
theorem oI.refl(hr:∀x,E x x):∀l,oI E l l
 |[]=>.nil
 |x::l=>.cons (hr x) (oI.refl hr l)
theorem oI.trans(ht:∀x y z,E x y→E y z→E x z){a b c:List α}(h:oI E a b):oI E b c→oI E a c:=by
 induction h generalizing c with
 |nil=>intro h;exact h
 |cons h1 _ ih=>intro h2;cases h2 with|cons h3 h4=>exact .cons (ht _ _ _ h1 h3) (ih h4)
theorem LT.shift(ht:∀x y z,E x y→E y z→E x z)(hd:∀x y z,D x y→E y z→D x z){a b c:List α}(h:LT D E a b):oI E b c→LT D E a c:=by
 induction h generalizing c with
 |drop h=>intro h2;cases h2 with|cons h3 h4=>exact .drop (h.trans ht h4)
 |head h1 h=>intro h2;cases h2 with|cons h3 h4=>exact .head (hd _ _ _ h1 h3) (h.trans ht h4)
 |tail h1 _ ih=>intro h2;cases h2 with|cons h3 h4=>exact .tail (ht _ _ _ h1 h3) (ih h4)
theorem AU(ht:∀x y z,E x y→E y z→E x z)(hd:∀x y z,D x y→E y z→D x z){l l':List α}(h:Acc (LT D E) l)(he:oI E l' l):Acc (LT D E) l':=
 ⟨_,fun m hm=>h.inv (hm.shift ht hd he)⟩
theorem EU(hr:∀x,E x x)(ht:∀x y z,E x y→E y z→E x z)(hd:∀x y z,D x y→E y z→D x z):∀l:List α,(∀x∈l,Acc D x)→Acc (LT D E) l
 |[],_=>⟨_,fun m hm=>by cases hm⟩
 |x::l,h=>by
  have hx:=h x (by simp);have hl:=EU hr ht hd l fun y hy=>h y (by simp[hy]);clear h
  induction hx generalizing l with
  |intro x _ ihx=>
   induction hl with
   |intro l hl ihl=>
    refine⟨_,fun m hm=>?_⟩;have xA:Acc (LT D E) l:=⟨_,hl⟩
    cases hm with
    |drop h=>exact AU ht hd xA h
    |head h1 h2=>exact ihx _ h1 _ (AU ht hd xA h2)
    |tail h1 h2=>exact AU ht hd (ihl _ h2) (.cons h1 (.refl hr _))
theorem oI.of_map{f:α→α}(h:∀x,E (f x) x):∀l:List α,oI E (l.map f) l
 |[]=>.nil
 |x::l=>.cons (h x) (oI.of_map h l)
theorem LT.mid{f:α→α}(h:∀x,E (f x) x){x x':α}(hd:D x' x)(l2:List α):∀l1:List α,LT D E (l1.map f++x'::l2.map f) (l1++x::l2)
 |[]=>.head hd (.of_map h l2)
 |y::l=>.tail (h y) (LT.mid h hd l2 l)
theorem LT.cut{f:α→α}(h:∀x,E (f x) x){x:α}(l2:List α):∀l1:List α,LT D E (l1.map f++l2.map f) (l1++x::l2)
 |[]=>.drop (.of_map h l2)
 |y::l=>.tail (h y) (LT.cut h l2 l)
end
section
variable(P:aI)(c0 c1:Nat)
def zS:Value:=.tuple #[]
def AtSend(c:Nat)(v:aj)(g:aB):Prop:=g.status=.running∧g.dying=none∧g.offers=none∧∀w,eM P false g w=.comm g #[nj c v zS] true .send w #[]
inductive gD(S:Nat→Prop)(p:aj):Bool→(Nat→Prop)→aB→ar→Prop
 |step {b:Bool} {O:Nat→Prop} {g:aB} {w:ar}:g.status=.running→g.dying=none→
   (∀w1,gW (fun c=>S c∨O c) w w1→∃g2 w2 es,eM P false g w1=.go g2 w2 es∧Jk S O w1 w2 es∧g2.status=.running∧g2.dying=none)→
   (∀w1,gW (fun c=>S c∨O c) w w1→∀g2 w2 es,eM P false g w1=.go g2 w2 es→gD S p b (own O w1 w2) g2 w2)→gD S p b O g w
 |Be {O:Nat→Prop} {g:aB} {w:ar}:AtSend P c0 p g→gD S p false O (eN g af) w→gD S p true O g w
 |Bd {O:Nat→Prop} {g:aB} {w:ar} {n:Nat}:AtSend P c1 (.bool true) g→QuitsD P n 0 (eN g af)→gD S p false O g w
theorem gD.rely{S:Nat→Prop}{p:aj}{b:Bool}{O:Nat→Prop}{g:aB}{w:ar}(h:gD P c0 c1 S p b O g w):∀ {w1:ar},gW (fun c=>S c∨O c) w w1→gD P c0 c1 S p b O g w1:=by
 induction h with
 |step a b c d _=>intro w1 hr;exact .step a b (fun w2 h2=>c w2 (hr.trans h2)) fun w2 h2=>d w2 (hr.trans h2)
 |Be h _ ih=>intro w1 hr;exact .Be h (ih hr)
 |Bd h hq=>intro w1 hr;exact .Bd h hq
theorem gD.CD{S:Nat→Prop}{p:aj}{b:Bool}{Stop:(Nat→Prop)→aB→ar→Prop}{O:Nat→Prop}{g:aB}{w:ar}(h:Walk P false S Stop O g w)(k:∀O g w,Stop O g w→gD P c0 c1 S p b O g w):gD P c0 c1 S p b O g w:=by
 induction h with
 |@stop O g w h=>exact k _ _ _ (h w (.refl _ _))
 |step a b c d ih=>exact .step a b c ih
structure X where
 id:Nat
 S:Nat→Prop
 p:aj
 b:Bool
 O:Nat→Prop
 g:aB
 w:ar
def X.at(w:ar)(x:X):X:={ x with w:=w }
inductive WS:X→Prop
 |run {x:X}:gD P c0 c1 x.S x.p x.b x.O x.g x.w→WS x
 |tQ {x:X} {g:aB}:x.b=true→AtSend P c0 x.p g→gD P c0 c1 x.S x.p false x.O (eN g af) x.w→x.g=ia g #[nj c0 x.p zS] .send→WS x
 |tP {x:X} {g:aB} {n:Nat}:x.b=false→AtSend P c1 (.bool true) g→QuitsD P n 0 (eN g af)→x.g=ia g #[nj c1 (.bool true) zS] .send→WS x
def Sh(x' x:X):Prop:=∃w,gW (fun c=>x.S c∨x.O c) x.w w∧x'=x.at w
inductive Dn:X→X→Prop
 |step {x x':X} {w1 w2:ar} {g2:aB} {es:Array fP}:x.g.status=.running→gW (fun c=>x.S c∨x.O c) x.w w1→eM P false x.g w1=.go g2 w2 es→Sh x' { x with O:=own x.O w1 w2,g:=g2,w:=w2 }→Dn x' x
 |yF {x x':X} {c:Nat} {v:aj}:AtSend P c v x.g→Sh x' { x with g:=ia x.g #[nj c v zS] .send }→Dn x' x
 |sent {x x':X} {g:aB}:x.b=true→AtSend P c0 x.p g→(x.g=g∨x.g=ia g #[nj c0 x.p zS] .send)→Sh x' { x with b:=false,g:=eN g af }→Dn x' x
theorem lY(x:X):Sh x x:=⟨x.w,.refl _ _,rfl⟩
theorem oh(x y z:X)(h:Sh x y)(h':Sh y z):Sh x z:=by
 obtain⟨w,hr,rfl⟩:=h;obtain⟨w',hr',rfl⟩:=h';exact⟨w,hr'.trans hr,rfl⟩
theorem Ep(x y z:X)(h:Dn P c0 x y)(h':Sh y z):Dn P c0 x z:=by
 obtain⟨w,hr,rfl⟩:=h';cases h with
 |step h1 h2 h3 h4=>exact .step h1 (hr.trans h2) h3 h4
 |yF h1 h2=>
  obtain⟨w2,hr2,rfl⟩:=h2;exact .yF h1 ⟨w2,hr.trans hr2,rfl⟩
 |sent h1 h2 h3 h4=>
  obtain⟨w2,hr2,rfl⟩:=h4;exact .sent h1 h2 h3 ⟨w2,hr.trans hr2,rfl⟩
theorem EW{x x':X}(h:Acc (Dn P c0) x)(he:Sh x' x):Acc (Dn P c0) x':=⟨_,fun y hy=>h.inv (Ep P c0 _ _ _ hy he)⟩
theorem rF{c c':Nat}{v v':aj}{g:aB}{cs:Array mD}{sh:CommShape}(h:AtSend P c v (ia g cs sh)):False:=by cases h.1
theorem AQ{S:Nat→Prop}{p:aj}{b:Bool}{O:Nat→Prop}{g:aB}{w:ar}(h:gD P c0 c1 S p b O g w)(id:Nat):Acc (Dn P c0) ⟨id,S,p,b,O,g,w⟩:=by
 induction h with
 |@step b O g w hr hd hc hk ih=>
  refine⟨_,fun y hy=>?_⟩;obtain⟨g2,w2,es,he,_⟩:=hc w (.refl _ _);cases hy with
  |step h1 h2 h3 h4=>exact EW P c0 (ih _ h2 _ _ _ h3) h4
  |yF h1 h2=>have:=h1.2.2.2 w;dsimp only at this;rw[he] at this;cases this
  |sent h1 h2 h3 h4=>
   rcases h3 with h3|h3
   ·dsimp only at h3;subst h3;have:=h2.2.2.2 w;rw[he] at this;cases this
   ·dsimp only at h3;subst h3;cases hr
 |@Be O g w ha _ ih=>
  have hp:Acc (Dn P c0) ⟨id,S,p,true,O,ia g #[nj c0 p zS] .send,w⟩:=by
   refine⟨_,fun y hy=>?_⟩;cases hy with
   |step h1 _ _ _=>cases h1
   |yF h1 _=>exact(rF P (c':=0) (v':=p) h1).elim
   |@sent _ _ g0 h1 h2 h3 h4=>
    rcases h3 with h3|h3
    ·dsimp only at h3;rw[←h3] at h2;exact(rF P (c':=0) (v':=p) h2).elim
    ·dsimp only at h3
     have e:g=g0:=by
      have e1:g.frame=g0.frame:=by have:=congrArg Goroutine.frame h3;exact this
      have e2:g.callers=g0.callers:=by have:=congrArg Goroutine.callers h3;exact this
      have e3:=ha.1;have e4:=h2.1;have e5:=ha.2.1;have e6:=h2.2.1;have e7:=ha.2.2.1;have e8:=h2.2.2.1;cases g;cases g0;simp_all
     subst e;exact EW P c0 ih h4
  refine⟨_,fun y hy=>?_⟩;cases hy with
  |step h1 h2 h3 h4=>dsimp only at h3;rw[ha.2.2.2] at h3;cases h3
  |@yF _ _ c v h1 h2=>
   have e:=h1.2.2.2 w;dsimp only at e;rw[ha.2.2.2 w] at e;injection e with e1 e2
   have e3:nj c0 p zS=nj c v zS:=by injection e2 with e2;injection e2
   rw[←e3] at h2;exact EW P c0 hp h2
  |sent h1 h2 h3 h4=>
   rcases h3 with h3|h3
   ·dsimp only at h3;subst h3;exact EW P c0 ih h4
   ·dsimp only at h3;subst h3;cases ha.1
 |@Bd O g w n ha hq=>
  have hp:Acc (Dn P c0) ⟨id,S,p,false,O,ia g #[nj c1 (.bool true) zS] .send,w⟩:=by
   refine⟨_,fun y hy=>?_⟩;cases hy with
   |step h1 _ _ _=>cases h1
   |yF h1 _=>exact(rF P (c':=0) (v':=p) h1).elim
   |sent h1 _ _ _=>cases h1
  refine⟨_,fun y hy=>?_⟩;cases hy with
  |step h1 h2 h3 h4=>dsimp only at h3;rw[ha.2.2.2] at h3;cases h3
  |@yF _ _ c v h1 h2=>
   have e:=h1.2.2.2 w;dsimp only at e;rw[ha.2.2.2 w] at e;injection e with e1 e2
   have e3:nj c1 (.bool true) zS=nj c v zS:=by injection e2 with e2;injection e2
   rw[←e3] at h2;exact EW P c0 hp h2
  |sent h1 _ _ _=>cases h1
end
section
variable(P:aI)(c0 c1:Nat)(z0 z1:aj)
def jN:Array CommCase:=#[rcase c0 z0,rcase c1 z1]
def XW(g:aB):Prop:=g.status=.running∧g.dying=none∧g.offers=none∧∀w,eM P true g w=.comm g (jN c0 c1 z0 z1) true .select w #[]
def AtGo(g g' child:aB):Prop:=g.status=.running∧g.dying=none∧∀w,eM P true g w=.spawn g' child w #[]
def ik(g:aB)(k:Nat)(v:aj):Goroutine:=g.finishComm P (jN c0 c1 z0 z1) .select k v true
inductive eW(Fin:List aj→List aj→(Nat→Prop)→(Nat→Prop)→aB→ar→Prop):Nat→Nat→List aj→List aj→(Nat→Prop)→(Nat→Prop)→aB→ar→Prop
 |fin {acc out:List aj} {S O:Nat→Prop} {g:aB} {w:ar}:g.status=.running→(∀w1,gW (fun c=>S c∨O c) w w1→Fin acc out S O g w1)→eW Fin 0 0 acc out S O g w
 |step {f m:Nat} {acc out:List aj} {S O:Nat→Prop} {g:aB} {w:ar}:g.status=.running→g.dying=none→
   (∀w1,gW (fun c=>S c∨O c) w w1→∃g2 w2 es,eM P true g w1=.go g2 w2 es∧Jk S O w1 w2 es∧g2.status=.running∧g2.dying=none)→
   (∀w1,gW (fun c=>S c∨O c) w w1→∀g2 w2 es,eM P true g w1=.go g2 w2 es→eW Fin f m acc out S (own O w1 w2) g2 w2)→eW Fin f m acc out S O g w
 |spawn {f m:Nat} {acc out:List aj} {S O Sk S' O':Nat→Prop} {g g' child:aB} {w:ar} {b:Bool} {p:aj}:AtGo P g g' child→g'.status=.running→child.status=.running→(∀c,Sk c→S c∨O c)→gD P c0 c1 Sk p b (fun _=>False) child w→
   (∀c,S' c→S c∨O c)→(∀c,O' c→O c∧¬Sk c∧¬S' c)→eW Fin (f+b.toNat) (m+1) (acc++if b then[p] else[]) out S' O' g' w→eW Fin f m acc out S O g w
 |select {f m:Nat} {acc out:List aj} {S O:Nat→Prop} {g:aB} {w:ar}:XW P c0 c1 z0 z1 g→(∀v f',f=f'+1→v∈acc→eW Fin f' (m+1) acc (out++[v]) S O (ik P c0 c1 z0 z1 g 0 v) w)→
   (f≤m→eW Fin f m acc out S O (ik P c0 c1 z0 z1 g 1 (.bool true)) w)→eW Fin f (m+1) acc out S O g w
variable{P c0 c1 z0 z1}
theorem eW.rely{Fin:List aj→List aj→(Nat→Prop)→(Nat→Prop)→aB→ar→Prop}{f m:Nat}{acc out:List aj}{S O:Nat→Prop}{g:aB}{w:ar}(h:eW P c0 c1 z0 z1 Fin f m acc out S O g w) :
  ∀ {w1:ar},gW (fun c=>S c∨O c) w w1→eW P c0 c1 z0 z1 Fin f m acc out S O g w1:=by
 induction h with
 |fin hs h=>intro w1 hr;exact .fin hs fun w2 h2=>h w2 (hr.trans h2)
 |step a b c d _=>intro w1 hr;exact .step a b (fun w2 h2=>c w2 (hr.trans h2)) fun w2 h2=>d w2 (hr.trans h2)
 |spawn h1 h2 h2' h3 h4 h5 h6 _ ih=>
  intro w1 hr;exact .spawn h1 h2 h2' h3 (h4.rely _ _ _ ⟨hr.grow,fun c hc=>hr.keep c (h3 c (by simpa using hc))⟩) h5 h6 (ih ⟨hr.grow,fun c hc=>hr.keep c (hc.elim (h5 c) fun h=>.inr (h6 c h).1)⟩)
 |select h1 _ _ Ux Yy=>intro w1 hr;exact .select h1 (fun v f' e hv=>Ux v f' e hv hr) fun hf=>Yy hf hr
theorem eW.more{Fin:List aj→List aj→(Nat→Prop)→(Nat→Prop)→aB→ar→Prop}(hF:∀acc out S O O' g w,Fin acc out S O g w→(∀c,O c→O' c)→Fin acc out S O' g w){f m:Nat}{acc out:List aj}{S O:Nat→Prop}{g:aB}{w:ar}(h:eW P c0 c1 z0 z1 Fin f m acc out S O g w) :
  ∀ {O':Nat→Prop},(∀c,O c→O' c)→eW P c0 c1 z0 z1 Fin f m acc out S O' g w:=by
 have hrel:∀ {S O O':Nat→Prop} {w w1:ar},(∀c,O c→O' c)→gW (fun c=>S c∨O' c) w w1→gW (fun c=>S c∨O c) w w1:=fun ho hr=>⟨hr.grow,fun c hc=>hr.keep c (hc.imp id (ho c))⟩
 induction h with
 |fin hs h=>intro O' ho;exact .fin hs fun w1 hr=>hF _ _ _ _ _ _ _ (h w1 (hrel ho hr)) ho
 |step a b c d ih=>
  intro O' ho;refine .step a b (fun w1 hr=>?_) fun w1 hr g2 w2 es he=>?_
  ·obtain⟨g2,w2,es,e,hg,h1,h2⟩:=c w1 (hrel ho hr);exact⟨g2,w2,es,e,⟨hg.grow,fun c hc hn=>hg.keep c hc fun h=>hn (ho c h),hg.tape,hg.drawn,hg.os,hg.out,fun x hx=>(hg.evs x hx).mono (fun c hc=>hc.imp id fun h=>h.imp (ho c) id) fun c hc=>hc.imp (ho c) id⟩,h1,h2⟩
  ·exact ih w1 (hrel ho hr) g2 w2 es he fun c hc=>hc.imp (ho c) id
 |spawn h1 h2 h2' h3 h4 h5 h6 _ ih=>
  intro O' ho;exact .spawn h1 h2 h2' (fun c hc=>(h3 c hc).imp id (ho c)) h4 (fun c hc=>(h5 c hc).imp id (ho c)) (fun c hc=>⟨ho c (h6 c hc).1,(h6 c hc).2⟩) (by assumption)
 |select h1 _ _ Ux Yy=>intro O' ho;exact .select h1 (fun v f' e hv=>Ux v f' e hv ho) fun hf=>Yy hf ho
theorem eW.CD{Fin:List aj→List aj→(Nat→Prop)→(Nat→Prop)→aB→ar→Prop}{f m:Nat}{acc out:List aj}{S:Nat→Prop}{Stop:(Nat→Prop)→aB→ar→Prop}{O:Nat→Prop}{g:aB}{w:ar}(h:Walk P true S Stop O g w)
  (k:∀O g w,Stop O g w→eW P c0 c1 z0 z1 Fin f m acc out S O g w):eW P c0 c1 z0 z1 Fin f m acc out S O g w:=by
 induction h with
 |@stop O g w h=>exact k _ _ _ (h w (.refl _ _))
 |step a b c d ih=>exact .step a b c ih
end
structure Geo(c0 c1:Nat)(S0 O0:Nat→Prop)(L:List X)(n:Nat):Prop where
 Ij:∀c,S0 c∨O0 c→c<n∧c≠c0∧c≠c1
 dj0:∀c,S0 c→¬O0 c
 lt:∀x∈L,∀c,x.S c∨x.O c→c<n∧c≠c0∧c≠c1
 dj:∀x∈L,∀c,x.S c→¬x.O c
 mw:∀x∈L,∀c,O0 c→¬x.S c∧¬x.O c
 wm:∀x∈L,∀c,x.O c→¬S0 c
 ww:∀x∈L,∀y∈L,x.id≠y.id→∀c,x.O c→¬y.S c∧¬y.O c
def SL(L:List X)(g c:Nat):Prop:=∃x∈L,x.id=g∧x.S c
def OL(L:List X)(g c:Nat):Prop:=∃x∈L,x.id=g∧x.O c
def act(L:List X)(g:Nat):Prop:=∃x∈L,x.id=g
def Chan(c:Nat)(w:ar):Prop:=∃s tm,w.heap[c]?=some (.chan 0 #[] false s s tm)
structure Inv(P:aI)(c0 c1:Nat)(S0 O0:Nat→Prop)(gm:aB)(L:List X)(gs:Array aB)(w:ar)(t:Trace)(q:Nat→Nat):Prop where
 zero:gs[0]?=some gm
 slot:∀x∈L,gs[x.id]?=some x.g∧0<x.id
 ws:∀x∈L,WS P c0 c1 x∧x.w=w
 nodup:(L.map X.id).Nodup
 old:∀i g,0<i→gs[i]?=some g→¬act L i→QuitsD P (q i) (Deaf t i) g
 above:∀j,gs.size≤j→Deaf t j=0
 pt:PT (act L) (SL L) (OL L) w.heap.size t
 geo:Geo c0 c1 S0 O0 L w.heap.size
 BR:Chan c0 w
 BQ:Chan c1 w
 ne:c0≠c1
 wk0:∀g g' w',Chan c0 w'→Chan c1 w'→woken P g g' w' gm=gm
 st0:gm.status=.running∨gm.status=.blocked
section
variable{P:aI}{c0 c1:Nat}{S0 O0:Nat→Prop}{gm:aB}{L:List X}{gs:Array aB}{w:ar}{t:Trace}{q:Nat→Nat}
theorem PT.congr{A A':Nat→Prop}{S O S' O':Nat→Nat→Prop}{B:Nat}(h:PT A S O B t)(hA:∀g,A' g↔A g)(hS:∀g,A g→∀c,S' g c↔S g c)(hO:∀g,A g→∀c,O' g c↔O g c):PT A' S' O' B t:=by
 refine⟨h.clean,fun i a c ha hc=>(h.known i a c ha hc).imp id ?_,fun g hg i a c ha hc hs=>h.wk g ((hA g).1 hg) i a c ha hc ((hS g ((hA g).1 hg) c).1 hs),fun g hg i a c ha hc ho=>h.ow g ((hA g).1 hg) i a c ha hc ((hO g ((hA g).1 hg) c).1 ho),
  fun i g h1 h2 h3=>(h.over i g h1 h2 h3).imp id (hA g).2,h.hears,fun g hg=>h.sZ g ((hA g).1 hg),h.seen,fun g hg=>h.pos g ((hA g).1 hg)⟩
 rintro⟨g,hg,h1,h2⟩;exact⟨g,(hA g).2 hg,h1,h2.imp (hO g hg c).2 fun h3=>⟨h3.1,(hS g hg c).2 h3.2⟩⟩
theorem gD.running{S:Nat→Prop}{p:aj}{b:Bool}{O:Nat→Prop}{g:aB}{w:ar}(h:gD P c0 c1 S p b O g w):g.status=.running:=by
 cases h with
 |step h _ _ _=>exact h
 |Be h _=>exact h.1
 |Bd h _=>exact h.1
theorem WS.status{x:X}(h:WS P c0 c1 x):x.g.status=.running∨x.g.status=.blocked:=by
 cases h with
 |run h=>exact .inl h.running
 |tQ _ _ _ e=>right;rw[e];rfl
 |tP _ _ _ e=>right;rw[e];rfl
theorem WS.woken{x:X}(h:WS P c0 c1 x)(h0:Chan c0 w)(h1:Chan c1 w)(g g':aB):Conc.woken P g g' w x.g=x.g:=by
 obtain⟨s,tm,h0⟩:=h0;obtain⟨s',tm',h1⟩:=h1;cases h with
 |run h=>exact woken_run h.running
 |tQ _ _ _ e=>rw[e];exact woken_send_open _ _ h0
 |tP _ _ _ e=>rw[e];exact woken_send_open _ _ h1
theorem WS.rely{x:X}(h:WS P c0 c1 x){w':ar}(hr:gW (fun c=>x.S c∨x.O c) x.w w'):WS P c0 c1 (x.at w'):=by
 cases h with
 |run h=>exact .run (h.rely _ _ _ hr)
 |tQ h1 h2 h3 h4=>exact .tQ h1 h2 (h3.rely _ _ _ hr) h4
 |tP h1 h2 h3 h4=>exact .tP h1 h2 h3 h4
theorem J5{l:List X}(h:(l.map X.id).Nodup):∀x∈l,∀y∈l,x.id=y.id→x=y:=by
 induction l with
 |nil=>intro x hx;cases hx
 |cons a l ih=>
  simp only[List.map_cons,List.nodup_cons,dc,not_exists,not_and] at h;intro x hx y hy e;rcases bR.1 hx with rfl|hx'<;>rcases bR.1 hy with rfl|hy'
  ·rfl
  ·exact absurd e.symm (h.1 y hy')
  ·exact absurd e (h.1 x hx')
  ·exact ih h.2 x hx' y hy' e
theorem nJ{l1 l2:List X}{x:X}(h:((l1++x::l2).map X.id).Nodup):∀y∈l1++l2,y.id≠x.id:=by
 simp only[List.map_append,List.map_cons,List.nodup_append,List.nodup_cons,dc,bR] at h;intro y hy e;rcases List.mem_append.1 hy with hy|hy
 ·exact h.2.2 _ ⟨y,hy,rfl⟩ x.id (.inl rfl) e
 ·exact h.2.1.1 ⟨y,hy,e⟩
theorem Inv.size(h:Inv P c0 c1 S0 O0 gm L gs w t q):0<gs.size:=(ak.1 h.zero).1
theorem Inv.woken(h:Inv P c0 c1 S0 O0 gm L gs w t q){w':ar}(h0:Chan c0 w')(h1:Chan c1 w')(g g':aB):gs.map (Conc.woken P g g' w')=gs:=by
 apply Array.ext_getElem?;intro i;rw[Array.getElem?_map];cases hi:gs[i]? with
 |none=>rfl
 |some y=>
  simp only[dH];rcases iJ i with rfl|kg
  ·rw[h.zero] at hi;cases hi;rw[h.wk0 g g' w' h0 h1]
  ·by_cases ha:act L i
   ·obtain⟨x,hx,rfl⟩:=ha;rw[(h.slot x hx).1] at hi;cases hi;rw[(h.ws x hx).1.woken h0 h1]
   ·rw[woken_quitsD (h.old i y kg hi ha)]
theorem Inv.awake(h:Inv P c0 c1 S0 O0 gm L gs w t q):∀x∈gs,awake x:=by
 intro y hy;obtain⟨i,hi⟩:=Array.mem_iff_getElem?.1 hy;rcases iJ i with rfl|kg
 ·rw[h.zero] at hi;cases hi;exact awake_of (h.st0.imp id .inl)
 ·by_cases ha:act L i
  ·obtain⟨x,hx,rfl⟩:=ha;rw[(h.slot x hx).1] at hi;cases hi;exact awake_of ((h.ws x hx).1.status.imp id .inl)
  ·exact awake_of ((h.old i y kg hi ha).status.elim .inl fun x=>.inr (.inr x))
theorem rT{K:Nat→Prop}{w w':ar}(h:w'.heap=w.heap):gW K w w':=⟨by rw[h];exact ax _,fun c _=>by rw[h]⟩
theorem nK{w':ar}{L:List X}{y:X}:y∈L.map (X.at w')↔∃x∈L,y=x.at w':=by
 simp only[dc];exact⟨fun⟨x,h1,h2⟩=>⟨x,h1,h2.symm⟩,fun⟨x,h1,h2⟩=>⟨x,h1,h2.symm⟩⟩
theorem Je{w':ar}{g:Nat}:act (L.map (X.at w')) g↔act L g:=by
 constructor
 ·rintro⟨y,hy,rfl⟩;obtain⟨x,hx,rfl⟩:=nK.1 hy;exact⟨x,hx,rfl⟩
 ·rintro⟨x,hx,rfl⟩;exact⟨x.at w',nK.2 ⟨x,hx,rfl⟩,rfl⟩
theorem XP{w':ar}{g c:Nat}:SL (L.map (X.at w')) g c↔SL L g c:=by
 constructor
 ·rintro⟨y,hy,rfl,hs⟩;obtain⟨x,hx,rfl⟩:=nK.1 hy;exact⟨x,hx,rfl,hs⟩
 ·rintro⟨x,hx,rfl,hs⟩;exact⟨x.at w',nK.2 ⟨x,hx,rfl⟩,rfl,hs⟩
theorem XR{w':ar}{g c:Nat}:OL (L.map (X.at w')) g c↔OL L g c:=by
 constructor
 ·rintro⟨y,hy,rfl,hs⟩;obtain⟨x,hx,rfl⟩:=nK.1 hy;exact⟨x,hx,rfl,hs⟩
 ·rintro⟨x,hx,rfl,hs⟩;exact⟨x.at w',nK.2 ⟨x,hx,rfl⟩,rfl,hs⟩
theorem Geo.at{n:Nat}{w':ar}(h:Geo c0 c1 S0 O0 L n){n':Nat}(hn:n≤n'):Geo c0 c1 S0 O0 (L.map (X.at w')) n':=by
 have lift:∀ {Q:X→Prop},(∀x∈L,Q (x.at w'))→∀y∈L.map (X.at w'),Q y:=fun hq y hy=>by
  obtain⟨x,hx,rfl⟩:=nK.1 hy;exact hq x hx
 refine⟨fun c hc=>?_,h.dj0,lift fun x hx c hc=>?_,lift fun x hx c hc=>h.dj x hx c hc,lift fun x hx c hc=>h.mw x hx c hc,lift fun x hx c hc=>h.wm x hx c hc,lift fun x hx=>lift fun y hy he c hc=>h.ww x hx y hy he c hc⟩
 ·have:=h.Ij c hc;exact⟨by omega,this.2⟩
 ·have:=h.lt x hx c hc;exact⟨by omega,this.2⟩
theorem SM(L:List X)(w':ar):(L.map (X.at w')).map X.id=L.map X.id:=by
 rw[List.map_map];rfl
theorem Inv.draw(h:Inv P c0 c1 S0 O0 gm L gs w t q){w':ar}(hw:w'.heap=w.heap):Inv P c0 c1 S0 O0 gm (L.map (X.at w')) gs w' t q:=by
 have hlt:w'.heap.size=w.heap.size:=by rw[hw]
 refine⟨h.zero,fun y hy=>?_,fun y hy=>?_,by rw[SM];exact h.nodup,fun i g hi hg ha=>h.old i g hi hg fun a=>ha (Je.2 a),h.above,?_,?_,?_,?_,h.ne,h.wk0,h.st0⟩
 ·obtain⟨x,hx,rfl⟩:=nK.1 hy;exact h.slot x hx
 ·obtain⟨x,hx,rfl⟩:=nK.1 hy;refine⟨(h.ws x hx).1.rely ?_,rfl⟩;rw[(h.ws x hx).2];exact rT hw
 ·rw[hlt];exact h.pt.congr (fun g=>Je) (fun g _ c=>XP) fun g _ c=>XR
 ·exact h.geo.at (by omega)
 ·obtain⟨s,tm,e⟩:=h.BR;exact⟨s,tm,by rw[hw];exact e⟩
 ·obtain⟨s,tm,e⟩:=h.BQ;exact⟨s,tm,by rw[hw];exact e⟩
end
end Go.Lag
