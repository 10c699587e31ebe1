/- TWO PROGRAMS IN STEP: operators, comparison of plain values, maps. TWO PROGRAMS IN STEP: equality of plain values, maps. TWO PROGRAMS IN STEP: the ope .. -/
import Derived.Test.YtffladgmkiimjaaGreatDoorW07
import Derived.Conc.CrowdTrace
import Derived.Conc.CrowdSel
set_option linter.unusedVariables false
set_option linter.unusedSimpArgs false
set_option maxHeartbeats 100000000
set_option maxRecDepth 1000000
open Array renaming getElem?_eq_getElem → aR,getElem?_eq_some_iff → aj,empty_append → fJ,all_eq_true' → kn,mapM_eq_mapM_toList → o8
open Bool renaming and_eq_true → aS,false_eq_true → bF
open Go renaming Goroutine → aF,Program → aN,undef → af,Value → ak,World → ar,Frame → bP,TypeId → bg,Operand → cB,execOp → dX,Addr → dc,FuncId → eD,runtimePanic → eL,stepG → fK,Event → gy,CallKind → jL,Sem → jO,zeroValue → ja,underlying → je,unwind → lX,typeInfo → lY,CommCase → mU,Item → oZ,behindNumber → qP,unsupported → qR,doReturn → ud,MapEntry → ue,partners → wI,choose → zH
open Go.Builtin renaming firstCells → fH,zeroCells → gl,append_ → kC,mayShare → qc
open Go.Conc renaming served → fL,parked → iI,getElem?_append_cases → iu,solo_eq_crowd → nC,scase → nJ
open Go.Frame renaming enter → eH
open Go.GStep renaming after → AX
open Go.Instr renaming findAsking → kV,index → mS,checkKey → qV,findKey → uN,mapUpdate → zM
open Go.MemOp renaming ofEvents → iL
open Go.stepG renaming exec → cg,apply → eE,oper → fG
open List renaming mem_cons → cC,length_pos_iff → cP,getElem_mem → cz,not_mem_nil → eR,mem_toArray → fB,all_cons → fE,cons_append → iM
open Nat renaming le_refl → ay,le_trans → bq,add_sub_cancel_left → rS
open Option renaming map_eq_some_iff → eW,map_some → ej,bind_some → iK
open Option.some renaming injEq → lF
open Pure renaming pure → fA
namespace Go.Lag
open Go.Conc
structure SD(P:aN)(ρ:Rn):Prop where
 inj : ∀a b c,ρ a=some c→ρ b=some c→a=b
 low : ∀b c,ρ b=some c→P.globals.size≤b∧P.globals.size≤c
theorem AR.eq_iff{ρ:Rn}(hi : ∀a b c,ρ a=some c→ρ b=some c→a=b){a a' b b':dc}(ha:AR ρ a a')(hb:AR ρ b b'):a=b↔a'=b':=by
 constructor
 ·rintro rfl;have h1:=ha.block;rw[hb.block] at h1;injection h1 with h1
  cases a';cases b';have:=ha.off;have:=hb.off;have:=ha.spot;have:=hb.spot;simp_all
 ·rintro rfl;have:=hi _ _ _ ha.block hb.block;cases a;cases b;have:=ha.off;have:=hb.off;have:=ha.spot;have:=hb.spot;simp_all
section
variable{P:aN}{F:Nat→Bool}{α β γ δ:Type}{A:Rn→α→β→Prop}{A':Rn→γ→δ→Prop}{ρ:Rn}
theorem xj{t:bg}{k:IntKind}(ht:P.underlying t=some (.int k)){p p':Option dc}(hp:VR F ρ (.pointer p) (.pointer p')){v v':ak}(hv:VR F ρ v v') :
  bY P F (VR F) ρ (movedNumber t (.pointer p) v) (movedNumber t (.pointer p') v'):=by
 unfold movedNumber;refine dp.bH fun d hd=>?_;rw[ht] at hd;cases hd;simp only[bF,if_false,pure_bind];cases hp with
 |B5=>
  refine(uQ (.B5) hv).imp fun ρ' x y _ h=>?_;obtain⟨rfl,a,a',ha,rfl,rfl⟩:=h;exact .ptr ha
 |ptr ha=>
  refine(iN ha).dN fun x y ZU=>?_;obtain⟨x1,x2⟩:=x;obtain⟨y1,y2⟩:=y;obtain⟨h1,h2⟩:=ZU;simp only at h1 h2;subst h2;refine(uQ (.ptr h1) hv).dN fun x y ZU=>?_;obtain⟨a,a',ha,rfl,rfl⟩:=ZU;exact E3 ha _
theorem G2{k:IntKind}{a a':dc}(ha:AR ρ a a')(n:Int):bY P F (VR F) ρ (Op.addrMod k a n) (Op.addrMod k a' n):=by
 unfold Op.addrMod;refine(qo ha.block).bH fun s _=>?_;cases s with
 |none=>exact cx (by simp)
 |some x=>
  obtain⟨e,m⟩:=x;refine jE.bH fun i _=>?_;dsimp only;split
  ·exact .dead ((fQ (by simp)).bind _)
  ·refine(Jv ha).bH fun b _=>?_;exact .pure (.int _ _)
theorem uR(R:SD P ρ){a a' b b':dc}(ha:AR ρ a a'){f:Nat × Nat→jO α}{s':jO β}:bY P F A ρ (Op.twoPlaces a b >>= f) s':=by
 refine .dead (qO.bind ?_ f);unfold Op.twoPlaces;intro w es;have h:=(R.low _ _ ha.block).1;have hh:(a.block !=b.block||decide (a.block≥P.globals.size))=true:=by simp[h]
 have hp : ∀ {γ:Type} (f:aN→jO γ),(Go.program >>= f).runT P w es=(f P).runT P w es:=fun f=>rfl;rw[hp];dsimp only;rw[if_pos hh];exact((fQ (by simp)).bind _) w es
theorem EZ{op:BinOp}{k:IntKind}{a b:Int}:bY P F (VR F) ρ (Op.intArith op k a b) (Op.intArith op k a b):=by
 unfold Op.intArith;split<;>first|exact .pure (.int _ _)|exact bj
theorem Js{op:BinOp}{k:IntKind}{a b:Int}:bY P F (VR F) ρ (Op.intDiv op k a b) (Op.intDiv op k a b):=by
 unfold Op.intDiv;split
 ·exact gJ
 ·split<;>first|exact .pure (.int _ _)|exact bj
theorem GV{op:BinOp}{k:IntKind}{a b:Int}:bY P F (VR F) ρ (Op.intBits op k a b) (Op.intBits op k a b):=by
 unfold Op.intBits;dsimp only;split<;>first|exact .pure (.int _ _)|exact bj
theorem Jt{op:BinOp}{a b:Int}:bY P F (VR F) ρ (Op.intCmp op a b) (Op.intCmp op a b):=by
 unfold Op.intCmp;split<;>first|exact .pure (.bool _)|exact bj
theorem C8{op:BinOp}{k k':IntKind}{a b:Int}:bY P F (VR F) ρ (Op.shift op k a k' b) (Op.shift op k a k' b):=by
 unfold Op.shift;split
 ·exact gJ
 ·dsimp only;split<;>first|exact .pure (.int _ _)|exact bj
theorem wL{op:BinOp}{a b:ByteArray}:bY P F (VR F) ρ (Op.stringOp op a b) (Op.stringOp op a b):=by
 unfold Op.stringOp;dsimp only;split
 ·split
  ·exact cx (by simp)
  ·exact .pure (.string _)
 all_goals first|exact .pure (.bool _)|exact bj
def U5:BinOp→Bool
 |.add|.sub|.mul|.quo|.shl|.shr|.and|.or|.lss|.leq|.gtr|.geq=>true
 |_=>false
theorem uU{op:BinOp}{t:bg}{k k':IntKind}{a b:Int}:bY P F (VR F) ρ (binOp op t (.int k a) (.int k' b)) (binOp op t (.int k a) (.int k' b)):=by
 by_cases hk:k=k'
 ·cases op<;>simp only[binOp,hk,ne_eq,not_true,not_false_eq_true,if_true,if_false]<;>first|exact EZ|exact Js|exact GV|exact Jt|exact C8
 ·cases op<;>simp only[binOp,hk,ne_eq,not_true,not_false_eq_true,if_true,if_false]<;>first|exact bj|exact C8
theorem Lj(R:SD P ρ){op:BinOp}{t:bg}{k:IntKind}(ht:P.underlying t=some (.int k))(hop:U5 op=true){x x' y y':ak}(hx:VR F ρ x x')(hy:VR F ρ y y') :
  bY P F (VR F) ρ (binOp op t x y) (binOp op t x' y'):=by
 have Zl : ∀ {p p':Option dc} {v v':ak},VR F ρ (.pointer p) (.pointer p')→VR F ρ v v'→
   bY P F (VR F) ρ (do if (←je t) matches .unsafePointer then movedPointer t (.pointer p) v else movedNumber t (.pointer p) v) (do if (←je t) matches .unsafePointer then movedPointer t (.pointer p') v' else movedNumber t (.pointer p') v'):=by
  intro p p' v v' hp hv;refine dp.bH fun d hd=>?_;rw[ht] at hd;cases hd;exact xj ht hp hv
 have pp : ∀ {a a' b b':dc} (g:dc→dc→jO ak) (g':dc→dc→jO ak),(∀c d c' d',AR ρ c c'→AR ρ d d'→bY P F (VR F) ρ (g c d) (g' c' d'))→AR ρ a a'→AR ρ b b'→
   bY P F (VR F) ρ (do g (←qP a).1 (←qP b).1) (do g' (←qP a').1 (←qP b').1):=by
  intro a a' b b' g g' hg ha hb;exact(iN ha).dN fun c c' hc=>(iN hb).dN fun d d' hd=>hg _ _ _ _ hc.1 hd.1
 have pm : ∀ {a a':dc} (k:IntKind) (n:Int),AR ρ a a'→bY P F (VR F) ρ (do Op.addrMod k (←qP a).1 n) (do Op.addrMod k (←qP a').1 n):=by
  intro a a' k n ha;exact(iN ha).dN fun c c' hc=>G2 hc.1 n
 have acW : ∀c d c' d',AR ρ c c'→AR ρ d d'→bY P F (VR F) ρ (Op.addrSub .u64 c d) (Op.addrSub .u64 c' d'):=fun c d c' d' hc hd=>by
  unfold Op.addrSub;exact uR R hc (b':=d')
 have Ma : ∀op c d c' d',AR ρ c c'→AR ρ d d'→bY P F (VR F) ρ (Op.addrCmp op c d) (Op.addrCmp op c' d'):=fun op c d c' d' hc hd=>by
  unfold Op.addrCmp;exact uR R hc (b':=d')
 have acX : ∀op a b,binOp op t (.string a) (.string b)=Op.stringOp op a b:=fun op a b=>by cases op<;>simp only[binOp]
 cases hx<;>cases hy<;>first
  |exact uU
  |(rw[acX];exact wL)
  |(cases op<;>first|(cases hop;done)|exact wL|exact bj|exact cx (by simp)|exact Zl (.ptr ‹_›) (.int _ _)|exact Zl .B5 (.int _ _)|exact xj ht (.ptr ‹_›) (.int _ _)|exact xj ht .B5 (.int _ _)|exact pp _ _ acW ‹_› ‹_›|exact pp _ _ (Ma _) ‹_› ‹_›|exact pm _ _ ‹_›)
end
def pj(P:aN):Nat→bg→Bool
 |0,_=>false
 |n+1,t=>
  match P.underlying t with
  |some (.struct fs)=>fs.all fun f=>pj P n f.type
  |some (.array _ e)=>pj P n e
  |some .bool|some .string|some (.int _)|none=>true
  |_=>false
section
variable{P:aN}{F:Nat→Bool}{α β γ δ:Type}{A:Rn→α→β→Prop}{A':Rn→γ→δ→Prop}{ρ:Rn}
theorem uk{ι:Type}{f f':ι→β→jO (ForInStep β)}{l:List ι}(hf : ∀a∈l,∀b,bY P F (Same ρ fun _=>True) ρ (f a b) (f' a b)) : ∀b,bY P F (Same ρ fun _=>True) ρ (forIn l b f) (forIn l b f'):=by
 induction l with
 |nil=>intro b;exact cN
 |cons a l ih=>
  intro b;rw[List.forIn_cons,List.forIn_cons];refine(hf a (by simp) b).bH fun r _=>?_;cases r with
  |done b=>exact cN
  |yield b=>exact ih (fun a ha=>hf a (by simp[ha])) b
theorem rX{ι:Type}{f f':ι→β→jO (ForInStep β)}{l:Array ι}(hf : ∀a∈l,∀b,bY P F (Same ρ fun _=>True) ρ (f a b) (f' a b))(b:β):bY P F (Same ρ fun _=>True) ρ (forIn l b f) (forIn l b f'):=by
 rw[←Array.forIn_toList,←Array.forIn_toList];exact uk (fun a ha=>hf a (by simpa using ha)) _
theorem rW{f f':Nat→β→jO (ForInStep β)}(hf : ∀a b,bY P F (Same ρ fun _=>True) ρ (f a b) (f' a b))(l:Std.Legacy.Range)(b:β):bY P F (Same ρ fun _=>True) ρ (forIn l b f) (forIn l b f'):=by
 rw[Std.Legacy.Range.forIn_eq_forIn_range',Std.Legacy.Range.forIn_eq_forIn_range'];exact uk (fun a _=>hf a) _
theorem pJ(R:SD P ρ) : ∀(n d:Nat) (t:bg),pj P n t=true→∀(x x' y y':ak),VR F ρ x x'→VR F ρ y y'→bY P F (Same ρ fun _=>True) ρ (Op.equalIn d t x y) (Op.equalIn d t x' y')
 |0,d,t,h,x,x',y,y',hx,hy=>by cases h
 |n+1,0,t,h,x,x',y,y',hx,hy=>by simp only[Op.equalIn];exact cx (by simp)
 |n+1,d+1,t,h,x,x',y,y',hx,hy=>by
  simp only[Op.equalIn];refine dp.bH fun ds J4=>?_;simp only[pj,J4] at h;cases ds with
  |bool=>cases hx<;>first|exact bj|(cases hy<;>first|exact bj|exact cN)
  |string=>cases hx<;>first|exact bj|(cases hy<;>first|exact bj|exact cN)
  |int k=>
   cases hx with
   |int k1 m=>
    cases hy with
    |int k2 m2=>dsimp only;split<;>first|exact cN|exact bj
    |ptr ha=>
     cases m with
     |ofNat n=>
      cases n with
      |zero=>exact cN
      |succ n=>exact cx (by simp)
     |negSucc n=>exact cx (by simp)
    |_=>first|exact bj|exact cx (by simp)
   |ptr ha=>
    cases hy with
    |int k2 m2=>
     cases m2 with
     |ofNat n=>
      cases n with
      |zero=>exact cN
      |succ n=>exact cx (by simp)
     |negSucc n=>exact cx (by simp)
    |ptr hb=>
     dsimp only;refine(iN ha).dN fun c c' hc=>(iN hb).dN fun d d' hd=>kF ?_
     have e1:(c.fst.block==d.fst.block&&decide (c.fst.block<P.globals.size))=false:=by
      have:=(R.low _ _ hc.1.block).1;simp;omega
     have e2:(c'.fst.block==d'.fst.block&&decide (c'.fst.block<P.globals.size))=false:=by
      have:=(R.low _ _ hc.1.block).2;simp;omega
     simp only[e1,e2,bF,if_false];refine jE.bH fun i _=>?_;split
     ·have e3:=hc.1.eq_iff R.inj hd.1
      by_cases he:c.fst=d.fst
      ·simp only[he,beq_self_eq_true,if_true,e3.1 he];exact cN
      ·have he':=fun h=>he (e3.2 h);simp only[beq_eq_false_iff_ne.2 he,bF,if_false];exact cx (by simp)
     ·exact cx (by simp)
    |_=>first|exact bj|exact cx (by simp)
   |_=>cases hy<;>first|exact bj|exact cx (by simp)
  |struct fs=>
   cases hx<;>first|exact bj|(cases hy<;>first|exact bj|skip)
   rename_i cs cs' hs hv ds X8 hs' hv';dsimp only;refine kF ?_;split
   ·exact .dead ((fQ (by simp)).bind _)
   ·refine bY.bH (C:=fun _=>True) (rX (fun f hf b=>?_) _) fun r _=>?_
    ·split
     ·refine(nU ⟨hs,hv⟩ _).dN fun p p' hp=>(nU ⟨hs',hv'⟩ _).dN fun q q' hq=>?_;refine(pJ R n d f.type (kn.1 h f hf) _ _ _ _ hp hq).bH fun b _=>?_;split<;>exact cN
     ·exact cN
    ·split<;>exact cN
  |array len e=>
   cases hx<;>first|exact bj|(cases hy<;>first|exact bj|skip)
   rename_i cs cs' hs hv ds X8 hs' hv';dsimp only;refine gW.bH fun m _=>?_;refine bY.bH (C:=fun _=>True) (rW (fun i b=>?_) _ _) fun r _=>?_
   ·refine(nU ⟨hs,hv⟩ _).dN fun p p' hp=>(nU ⟨hs',hv'⟩ _).dN fun q q' hq=>?_;refine(pJ R n d e h _ _ _ _ hp hq).bH fun b _=>?_;split<;>exact cN
   ·split<;>exact cN
  |_=>cases h
theorem ot{em:Bool} : ∀(n d:Nat) (t:bg),pj P n t=true→∀(x x':ak),VR F ρ x x'→bY P F (Same ρ fun _=>True) ρ (qV em d t x) (qV em d t x')
 |0,d,t,h,x,x',hx=>by cases h
 |n+1,0,t,h,x,x',hx=>by simp only[qV];exact cx (by simp)
 |n+1,d+1,t,h,x,x',hx=>by
  simp only[qV];refine dp.bH fun ds J4=>?_;simp only[pj,J4] at h;cases ds with
  |bool=>cases hx<;>exact cN
  |string=>cases hx<;>exact cN
  |int k=>cases hx<;>exact cN
  |struct fs=>
   cases hx<;>first|exact bj|skip
   rename_i cs cs' hs hv;dsimp only;refine bY.bH (C:=fun _=>True) (rX (fun f hf b=>?_) _) fun _ _=>cN;split
   ·refine(nU ⟨hs,hv⟩ _).dN fun p p' hp=>?_;refine(ot n d f.type (kn.1 h f hf) _ _ hp).bH fun b _=>?_;exact cN
   ·exact cN
  |array len e=>
   cases hx<;>first|exact bj|skip
   rename_i cs cs' hs hv;dsimp only;refine bY.bH (C:=fun _=>True) (rW (fun i b=>?_) _ _) fun _ _=>cN;refine gW.bH fun m _=>(nU ⟨hs,hv⟩ _).dN fun p p' hp=>?_;refine(ot n d e h _ _ hp).bH fun b _=>?_;exact cN
  |_=>cases h
inductive EL(F:Nat→Bool)(ρ:Rn):List ue→List ue→Prop
 |nil:EL F ρ [] []
 |cons {x y:ue} {l m:List ue}:MER F ρ x y→EL F ρ l m→EL F ρ (x :: l) (y :: m)
theorem VD{l m:List ue}(hs:l.length=m.length)(h : ∀(i:Nat) (x y:ue),l[i]?=some x→m[i]?=some y→MER F ρ x y):EL F ρ l m:=by
 induction l generalizing m with
 |nil=>
  cases m with
  |nil=>exact .nil
  |cons y m=>cases hs
 |cons x l ih=>
  cases m with
  |nil=>cases hs
  |cons y m=>exact .cons (h 0 x y rfl rfl) (ih (by simpa using hs) fun i a b h1 h2=>h (i+1) a b (by simpa using h1) (by simpa using h2))
def Fnd(F:Nat→Bool)(ρ:Rn)(x y:Option (Nat × ak)):Prop:=(x=none∧y=none)∨∃i v v',x=some (i,v)∧y=some (i,v')∧VR F ρ v v'
theorem BX(R:SD P ρ){n:Nat}{t:bg}(h:pj P n t=true){k k':ak}(hk:VR F ρ k k'){l m:List ue}(he:EL F ρ l m) :
  ∀i,bY P F (At ρ (Fnd F ρ)) ρ (kV t k l i) (kV t k' m i):=by
 induction he with
 |nil=>intro i;exact .dv (.inl ⟨rfl,rfl⟩)
 |cons hx _ ih=>
  intro i;simp only[kV];refine(pJ R n _ t h _ _ _ _ hk hx.key).bH fun b _=>?_;cases b with
  |true=>exact .dv (.inr ⟨i,_,_,rfl,rfl,hx.val⟩)
  |false=>exact ih (i+1)
theorem Oc{ds:TypeDesc}{k k' e e':ak}(hk:VR F ρ k k')(he:VR F ρ e e'):Instr.sameNow ds k e=Instr.sameNow ds k' e':=by
 cases ds<;>cases hk<;>first|rfl|(cases he<;>rfl)
theorem Pe{ds:TypeDesc}{k k':ak}(hk:VR F ρ k k'){l m:List ue}(he:EL F ρ l m) : ∀i,
  (Instr.findNow ds k l i=none∧Instr.findNow ds k' m i=none)∨∃x y,Instr.findNow ds k l i=some x∧Instr.findNow ds k' m i=some y∧Fnd F ρ x y:=by
 induction he with
 |nil=>intro i;exact .inr ⟨none,none,rfl,rfl,.inl ⟨rfl,rfl⟩⟩
 |cons hx _ ih=>
  intro i;simp only[Instr.findNow,←Oc (ds:=ds) hk hx.key];split
  ·exact .inr ⟨_,_,rfl,rfl,.inr ⟨i,_,_,rfl,rfl,hx.val⟩⟩
  ·exact ih (i+1)
  ·exact .inl ⟨rfl,rfl⟩
theorem yl(R:SD P ρ){n:Nat}{t:bg}(h:pj P n t=true){k k':ak}(hk:VR F ρ k k'){l m:List ue}(he:EL F ρ l m) :
  bY P F (At ρ (Fnd F ρ)) ρ (uN t k l) (uN t k' m):=by
 unfold uN;refine dp.bH fun ds _=>?_;rcases Pe (ds:=ds) hk he 0 with⟨h1,h2⟩|⟨x,y,h1,h2,h3⟩
 ·simp only[h1,h2];exact BX R h hk he 0
 ·simp only[h1,h2];exact .dv h3
def QQ(P:aN)(t:bg):Bool:=match P.underlying t with|some (.map k e)=>pj P 6 k&&oD P e|_=>true
theorem Bd{r r':Nat}(h:ρ r=some r'):bY P F (At ρ (OR F ρ)) ρ (getObj r) (getObj r'):=.getObj h fun o o' ho=>.dv ho
theorem Jq(R:SD P ρ){t:bg}(ht:QQ P t=true){x x' k k':ak}(hx:VR F ρ x x')(hk:VR F ρ k k')(ok:Bool) :
  bY P F (At ρ (VR F ρ)) ρ (Instr.lookup t x k ok) (Instr.lookup t x' k' ok):=by
 unfold Instr.lookup;refine dp.bH fun ds J4=>?_;cases ds<;>first|exact bj|skip
 rename_i kt et;simp only[QQ,J4,aS] at ht;dsimp only
 have rest : ∀ {es es':Array ue},es.size=es'.size→EL F ρ es.toList es'.toList→bY P F (At ρ (VR F ρ)) ρ
   (do
     qV es.isEmpty 10000 kt k
     let (v,o) ←match ←uN kt k es.toList with
      |some (_,v)=>pure (v,true)
      |none=>pure (←ja et,false)
     pure (if ok then .tuple #[v,.bool o] else v))
   (do
     qV es'.isEmpty 10000 kt k'
     let (v,o) ←match ←uN kt k' es'.toList with
      |some (_,v)=>pure (v,true)
      |none=>pure (←ja et,false)
     pure (if ok then .tuple #[v,.bool o] else v)):=by
  intro es es' hs he;have hem:es'.isEmpty=es.isEmpty:=by simp[Array.isEmpty,hs]
  rw[hem];refine(ot 6 _ kt ht.1 _ _ hk).bH fun _ _=>(yl R ht.1 hk he).dN fun p q hpq=>?_
  have fin : ∀ {v v':ak} (b:Bool),VR F ρ v v'→bY P F (At ρ (VR F ρ)) ρ (fA (if ok then .tuple #[v,.bool b] else v)) (fA (if ok then .tuple #[v',.bool b] else v')):=by
   intro v v' b hv;cases ok
   ·exact .dv hv
   ·exact .dv ((iV.one hv).push (.bool b)).tuple
  rcases hpq with⟨rfl,rfl⟩|⟨i,v,v',rfl,rfl,hv⟩
  ·exact(lI ht.2).dN fun v v' hv=>fin false hv
  ·exact fin true hv
 cases hx<;>first|exact bj|skip
 ·exact rest rfl .nil
 ·rename_i r r' hr;refine(Bd hr).dN fun o o' ho=>?_;cases ho with
  |cells _ _=>exact bj
  |number _ _=>exact bj
  |map hs he=>exact rest hs (VD (by simpa using hs) fun i x y h1 h2=>he i x y (by simpa using h1) (by simpa using h2))
end
section
variable{P:aN}{F:Nat→Bool}{α β γ δ:Type}{A:Rn→α→β→Prop}{A':Rn→γ→δ→Prop}{ρ:Rn}
theorem JL{f:ak × ak→Bool}{g:ak × ak→Bool}(h : ∀x x' y y',VR F ρ x x'→VR F ρ y y'→f (x,y)=g (x',y')){l l':List ak}(hl:PJ F ρ l l') :
  ∀ {m m':List ak},PJ F ρ m m'→(l.zip m).all f=(l'.zip m').all g:=by
 induction hl with
 |nil=>intro m m' _;simp
 |cons hx _ ih=>
  intro m m' hm;cases hm with
  |nil=>simp
  |cons hy hm=>simp only[List.zip_cons_cons,fE];rw[h _ _ _ _ hx hy,ih hm]
theorem Lp(R:SD P ρ) : ∀(n:Nat) (x x' y y':ak),VR F ρ x x'→VR F ρ y y'→Instr.sameBits n x y=Instr.sameBits n x' y':=by
 intro n
 have hp : ∀ {a a' b b':dc},AR ρ a a'→AR ρ b b'→((some a==some b):Bool)=(some a'==some b'):=fun {a a' b b'} ha hb=>by
  have:=ha.eq_iff R.inj hb
  by_cases he:a=b
  ·rw[he,this.1 he];simp
  ·have he':=fun h=>he (this.2 h);rw[beq_eq_false_iff_ne.2 (by simpa using he),beq_eq_false_iff_ne.2 (by simpa using he')]
 induction n with
 |zero=>
  intro x x' y y' hx hy
  cases hx<;>cases hy<;>first
   |rfl
   |(simp only[Instr.sameBits];exact hp ‹_› ‹_›)
 |succ n ih=>
  intro x x' y y' hx hy
  cases hx<;>cases hy<;>first
   |rfl
   |(simp only[Instr.sameBits];exact hp ‹_› ‹_›)
   |(rename_i h1 h2 _ _ h3 h4
     simp only[Instr.sameBits]
     rw[h1,h3,JL (F:=F) (ρ:=ρ) (f:=fun(x,y)=>Instr.sameBits n x y) (g:=fun(x,y)=>Instr.sameBits n x y) (fun x x' y y' hx hy=>ih x x' y y' hx hy) (iV.list ⟨h1,h2⟩) (iV.list ⟨h3,h4⟩)])
theorem yj(R:SD P ρ){x x' y y':ak}(hx:VR F ρ x x')(hy:VR F ρ y y'):bY P F (At ρ (VR F ρ)) ρ (Instr.keyThatStays x y) (Instr.keyThatStays x' y'):=by
 unfold Instr.keyThatStays;rw[←Lp R _ _ _ _ _ hx hy];split
 ·exact .dv hy
 ·refine uV.bH fun n _=>?_;split
  ·exact .dv hy
  ·exact .dv hx
theorem Bb{r r':Nat}{o o':Obj}(h:ρ r=some r')(ho:OR F ρ o o'):bY P F (At ρ fun _ _=>True) ρ (setObj r o) (setObj r' o'):=.setObj h ho (.dv trivial)
def LG(P:aN)(t:bg):Bool:=match P.underlying t with|some (.map k _)=>pj P 6 k|_=>true
theorem C9(R:SD P ρ){t:bg}(ht:LG P t=true){x x' k k' v v':ak}(hx:VR F ρ x x')(hk:VR F ρ k k')(hv:VR F ρ v v') :
  bY P F (At ρ fun _ _=>True) ρ (zM t x k v) (zM t x' k' v'):=by
 unfold zM;refine dp.bH fun ds J4=>?_;cases ds<;>first|exact bj|skip
 rename_i kt et;simp only[LG,J4] at ht;dsimp only;cases hx<;>first|exact bj|exact gJ|skip
 rename_i r r' hr;dsimp only;refine(Bd hr).dN fun o o' ho=>?_;cases ho with
 |cells _ _=>exact bj
 |number _ _=>exact bj
 |@map es es' clk hs he=>
  dsimp only;have hel:EL F ρ es.toList es'.toList:=VD (by simpa using hs) fun i x y h1 h2=>he i x y (by simpa using h1) (by simpa using h2);refine(ot 6 _ kt ht _ _ hk).bH fun _ _=>(yl R ht hk hel).dN fun p q hpq=>?_;rcases hpq with⟨rfl,rfl⟩|⟨i,w,w',rfl,rfl,hw⟩
  ·refine Bb hr (.map (by simp[hs]) fun i x y h1 h2=>?_);rw[Array.getElem?_push] at h1 h2;rw[←hs] at h2;split at h1
   ·rename_i hi;simp only[hi,if_true] at h2;cases h1;cases h2;exact⟨hk,hv,rfl⟩
   ·rename_i hi;simp only[hi,if_false] at h2;exact he _ _ _ h1 h2
  ·dsimp only
   have tv:VR F ρ (((es[i]?).map (·.key)).getD k) (((es'[i]?).map (·.key)).getD k'):=by
    cases hx:es[i]? with
    |none=>
     have:es'[i]?=none:=by
      rw[Array.getElem?_eq_none_iff] at hx ⊢;omega
     rw[this];exact hk
    |some x=>
     have hi:i<es.size:=(aj.1 hx).1;have hi':i<es'.size:=hs▸hi;rw[aR hi'];exact(he i x _ hx (aR hi')).key
   refine(yj R tv hk).dN fun key ahH hkey=>?_;refine Bb hr (.map (by simp[hs]) fun j x y h1 h2=>?_);rw[Array.getElem?_modify] at h1 h2
   by_cases hj:i=j
   ·subst hj;simp only[if_true] at h1 h2;cases hx:es[i]? with
    |none=>rw[hx] at h1;cases h1
    |some x0=>
     cases hy:es'[i]? with
     |none=>rw[hy] at h2;cases h2
     |some y0=>
      rw[hx] at h1;rw[hy] at h2;cases h1;cases h2;exact⟨hkey,hv,(he _ _ _ hx hy).born⟩
   ·simp only[hj,if_false] at h1 h2;exact he _ _ _ h1 h2
theorem GU{t:bg}:bY P F (VR F) ρ (Instr.makeMap t none) (Instr.makeMap t none):=by
 unfold Instr.makeMap;exact bY.bind (A:=fun ρ' r r'=>ρ' r=some r') (.new (.map rfl fun i x y h=>by simp at h) fun ρ' r r' _ hr=>.pure hr) fun ρ' r r' _ hr=>.pure (.map hr)
theorem oq{v v':ak}(h:VR F ρ v v'):bY P F (At ρ (AR ρ)) ρ (Instr.sureAddr v) (Instr.sureAddr v'):=by
 cases h<;>first|exact bj|exact .dv ‹_›
theorem Jr{t:bg}{v v':ak}(h:VR F ρ v v'):bY P F (At ρ (VR F ρ)) ρ (Instr.loadAt t v) (Instr.loadAt t v'):=by
 unfold Instr.loadAt;exact(oq h).dN fun a a' ha=>yi ha
theorem GQ{t:bg}{v v' x x':ak}(h:VR F ρ v v')(hx:VR F ρ x x'):bY P F (At ρ fun _ _=>True) ρ (Instr.storeAt t v x) (Instr.storeAt t v' x'):=by
 unfold Instr.storeAt;exact(oq h).dN fun a a' ha=>EX ha hx
def Hf(P:aN)(s:bg)(f:Nat):Bool:=match P.underlying s with
 |some (.struct fs)=>(match fs[f]? with|some fl=>(match P.info? fl.type with|some i=>i.size !=0|none=>true)|none=>true)
 |_=>true
theorem GY{s:bg}{f:Nat}(hf:Hf P s f=true){v v':ak}(h:VR F ρ v v'):bY P F (At ρ (VR F ρ)) ρ (Instr.fieldAt s v f) (Instr.fieldAt s v' f):=by
 unfold Instr.fieldAt;refine dp.bH fun ds J4=>?_;cases ds<;>first|exact bj|skip
 rename_i fs;simp only[Hf,J4] at hf;dsimp only;cases hfl:fs[f]? with
 |none=>exact bj
 |some fl=>
  rw[hfl] at hf;simp only at hf ⊢;refine(oq h).dN fun a a' ha=>?_;unfold fieldPlace;refine bY.dN (Q:=AR ρ) (gW.bH fun n hn=>?_) fun b b' hb=>.dv (.ptr hb);obtain⟨i,hi,rfl⟩:=hn;rw[hi] at hf;have hne : ¬i.size=0:=by simpa using hf
  simp only[hne,if_false];exact .dv (ha.add _)
theorem GX{t:bg}{v v' i i':ak}(h:VR F ρ v v')(hi:VR F ρ i i'):bY P F (At ρ (VR F ρ)) ρ (Instr.indexAt t v i) (Instr.indexAt t v' i'):=by
 unfold Instr.indexAt;refine(tK hi).bH fun x hx=>?_;obtain⟨k,n⟩:=x;dsimp only
 have rest : ∀ {b b':Option dc} (len:Nat) (e:bg),VR F ρ (.pointer b) (.pointer b')→bY P F (At ρ (VR F ρ)) ρ
   (do
     let tiny:=len≤1&&(match ←je t with|.array ..=>true|_=>false)
     match b with
     |some a=>
      if 0≤n∧n<len then pure (.pointer (some (a.add (n.toNat*(←sizeOf e)))))
      else if tiny then qR (.noEntry "op/indexAddr.an index out of range at an array of length 0 or 1 (ledger 616)")
      else boundsPanic k n len .index
     |none=>boundsPanic k n 0 .index)
   (do
     let tiny:=len≤1&&(match ←je t with|.array ..=>true|_=>false)
     match b' with
     |some a=>
      if 0≤n∧n<len then pure (.pointer (some (a.add (n.toNat*(←sizeOf e)))))
      else if tiny then qR (.noEntry "op/indexAddr.an index out of range at an array of length 0 or 1 (ledger 616)")
      else boundsPanic k n len .index
     |none=>boundsPanic k n 0 .index):=by
  intro b b' len e hb;refine dp.bH fun ds _=>?_;cases hb with
  |B5=>exact lT
  |ptr ha=>
   dsimp only;split
   ·exact gW.bH fun m _=>.dv (.ptr (ha.add _))
   ·generalize (decide (len≤1)&&_:Bool)=tiny;cases tiny
    ·exact lT
    ·exact cx (by simp)
 refine dp.bH fun ds J4=>?_;cases ds with
 |array len e=>exact(oq h).dN fun a a' ha=>rest len e (.ptr ha)
 |slice e=>
  cases h<;>first|exact bj|skip
  ·rename_i l c;exact rest l e .B5
  ·exact rest _ e (.ptr ‹_›)
 |_=>cases h<;>exact bj
theorem Lh{t:bg}{v v' i i':ak}(h:VR F ρ v v')(hi:VR F ρ i i'):bY P F (At ρ (VR F ρ)) ρ (mS t v i) (mS t v' i'):=by
 unfold mS;refine(tK hi).bH fun x hx=>?_;obtain⟨k,n⟩:=x;dsimp only;refine dp.bH fun ds J4=>?_;cases ds with
 |string=>
  cases h<;>first|exact bj|skip
  dsimp only;generalize (if 0≤n then _ else _:Option UInt8)=o;cases o with
  |none=>exact lT
  |some b=>exact .dv (.int _ _)
 |array len e=>
  cases h<;>first|exact bj|skip
  rename_i hs hv;dsimp only;split
  ·exact gW.bH fun m _=>nU ⟨hs,hv⟩ _
  ·exact lT
 |_=>cases h<;>exact bj
theorem GZ{v v':ak}(h:VR F ρ v v')(i:Nat):bY P F (At ρ (VR F ρ)) ρ (Instr.extract v i) (Instr.extract v' i):=by
 unfold Instr.extract;cases h<;>first|exact bj|skip
 rename_i hs hv;have ha:iV F ρ _ _:=⟨hs,hv⟩
 dsimp only;split
 ·rename_i x hx;obtain⟨y,hy,hvy⟩:=ha.get hx;rw[hy];exact .dv hvy
 ·exact bj
theorem Lm{e:bg}(h:oD P e=true):bY P F (VR F) ρ (Instr.alloc e true (.tuple #[])) (Instr.alloc e true (.tuple #[])):=by
 unfold Instr.alloc;exact(lI h).dN fun v v' hv=>bY.bind (Bc hv) fun ρ' a a' _ ha=>.pure (.ptr ha)
theorem Qg{e:bg}{v v':ak}(h:VR F ρ v v'):bY P F (VR F) ρ (Instr.box e v) (Instr.box e v'):=by
 unfold Instr.box;exact bY.bind (Bc h) fun ρ' a a' _ ha=>.pure (.ptr ha)
end
section
variable{P:aN}{F:Nat→Bool}{α β γ δ:Type}{A:Rn→α→β→Prop}{A':Rn→γ→δ→Prop}{ρ:Rn}
inductive PL(F:Nat→Bool)(ρ:Rn):List (Nat × ak)→List (Nat × ak)→Prop
 |nil:PL F ρ [] []
 |cons {i:Nat} {x y:ak} {l m:List (Nat × ak)}:VR F ρ x y→PL F ρ l m→PL F ρ ((i,x) :: l) ((i,y) :: m)
theorem Kg{off:Nat}{l m:List ak}(h:PJ F ρ l m) : ∀(j:Nat) {cs cs':Array ak},iV F ρ cs cs'→
  iV F ρ ((l.zipIdx j).foldl (fun cs (c,j)=>cs.setIfInBounds (off+j) c) cs) ((m.zipIdx j).foldl (fun cs (c,j)=>cs.setIfInBounds (off+j) c) cs'):=by
 induction h with
 |nil=>intro j cs cs' hc;exact hc
 |cons hx _ ih=>intro j cs cs' hc;simp only[List.zipIdx_cons,List.foldl_cons];exact ih (j+1) (hc.set hx _)
theorem Mi{place:Nat→Option (Nat × Nat)}{l m:List (Nat × ak)}(h:PL F ρ l m) : ∀ {cs cs':Array ak},iV F ρ cs cs'→
  (Instr.fill place cs l=none∧Instr.fill place cs' m=none)∨∃x y,Instr.fill place cs l=some x∧Instr.fill place cs' m=some y∧iV F ρ x y:=by
 induction h with
 |nil=>intro cs cs' hc;exact .inr ⟨cs,cs',rfl,rfl,hc⟩
 |@cons i x y l m hx _ ih=>
  intro cs cs' hc;simp only[Instr.fill];cases place i with
  |none=>exact .inl ⟨rfl,rfl⟩
  |some p=>
   obtain⟨off,size⟩:=p;simp only[←hx.cells.size,←hc.size];split
   ·exact .inl ⟨rfl,rfl⟩
   ·have:=Kg (off:=off) hx.cells.list 0 hc;refine ih ?_;simpa only[←Array.foldl_toList,Array.toList_zipIdx] using this
theorem Da{ι κ:Type}{f:ι→jO κ}(hf : ∀a,bY P F (Same ρ fun _=>True) ρ (f a) (f a))(l:Array ι):bY P F (Same ρ fun _=>True) ρ (l.mapM f) (l.mapM f):=by
 rw[o8]
 have : ∀l:List ι,bY P F (Same ρ fun _=>True) ρ (l.mapM f) (l.mapM f):=by
  intro l;rw[←List.mapM'_eq_mapM]
  induction l with
  |nil=>exact cN
  |cons a l ih=>exact(hf a).bH fun _ _=>ih.bH fun _ _=>cN
 exact(this l.toList).bH fun _ _=>cN
theorem Li{t:bg}(ht:oD P t=true){l m:Array (Nat × ak)}(h:PL F ρ l.toList m.toList):bY P F (At ρ (VR F ρ)) ρ (Instr.build t l) (Instr.build t m):=by
 unfold Instr.build;refine(lI ht).dN fun z z' hz=>?_;dsimp only;refine dp.bH fun ds _=>?_;cases ds with
 |struct fs=>
  refine(Da (fun f=>gW.bH fun n _=>cN) fs).bH fun places _=>?_;rcases Mi (place:=(places[·]?)) h hz.cells with⟨h1,h2⟩|⟨x,y,h1,h2,h3⟩
  ·simp only[h1];exact bj
  ·simp only[h1,h2];exact .dv h3.agg
 |array n e=>
  refine gW.bH fun n _=>?_;rcases Mi (place:=fun i=>some (i*n,n)) h hz.cells with⟨h1,h2⟩|⟨x,y,h1,h2,h3⟩
  ·simp only[h1];exact bj
  ·simp only[h1,h2];exact .dv h3.agg
 |_=>exact bj
def yB(P:aN)(t:bg):Bool:=match P.underlying t with|some (.slice e)=>oD P e|_=>true
theorem Si:VR F ρ (default:ak) (default:ak):=yR (by rfl)
theorem iV.aep{a a':Array ak}(h:iV F ρ a a')(i:Nat):VR F ρ a[i]! a'[i]!:=by
 rw[Array.getElem!_eq_getD,Array.getElem!_eq_getD];exact h.getD Si i
theorem Gx{a a':Array ak}(h:iV F ρ a a')(n:Nat):iV F ρ ((Array.range n).map (a[· % a.size]!)) ((Array.range n).map (a'[· % a'.size]!)):=by
 refine iV.map fun i _=>?_;rw[←h.size];exact h.aep _
theorem BZ{t:bg}(ht:yB P t=true){n:Nat}{l m:Array (Nat × ak)}(h:PL F ρ l.toList m.toList):bY P F (VR F) ρ (Instr.buildSlice t n l) (Instr.buildSlice t n m):=by
 unfold Instr.buildSlice;refine dp.bH fun ds J4=>?_;cases ds<;>first|exact bj|skip
 rename_i e;simp only[yB,J4] at ht;refine gW.bH fun size _=>?_;dsimp only;split
 ·exact .dead ((fQ (by simp)).bind _)
 ·have rest : ∀ {z z':Array ak},iV F ρ z z'→bY P F (VR F) ρ
    (do
      let some cells:=Instr.fill (fun i=>some (i*size,size)) ((Array.range (n*size)).map (z[· % z.size]!)) l.toList|stuck "buildSlice: a part of the wrong size"
      pure (.slice (some (←newRow e cells)) n n))
    (do
      let some cells:=Instr.fill (fun i=>some (i*size,size)) ((Array.range (n*size)).map (z'[· % z'.size]!)) m.toList|stuck "buildSlice: a part of the wrong size"
      pure (.slice (some (←newRow e cells)) n n)):=by
   intro z z' hz;rcases Mi (place:=fun i=>some (i*size,size)) h (Gx hz (n*size)) with⟨h1,h2⟩|⟨x,y,h1,h2,h3⟩
   ·simp only[h1];exact bj
   ·simp only[h1,h2];exact bY.bind (uS h3) fun ρ' a a' _ ha=>.pure (.slice _ _ ha)
  split
  ·exact rest .nil
  ·exact(lI ht).dN fun v v' hv=>rest hv.cells
def QR(P:aN)(ts:Array bg):Bool:=match ts[0]? with|some t=>(match P.underlying t with|some (.slice _)|some (.array ..)|some .string=>true|_=>false)|none=>true
theorem Qf{ts:Array bg}(ht:QR P ts=true){t:bg}{l m:Array ak}(h:iV F ρ l m):bY P F (At ρ (VR F ρ)) ρ (Builtin.len_ ts t l) (Builtin.len_ ts t m):=by
 unfold Builtin.len_;unfold QR at ht;cases hx:l[0]? with
 |none=>cases ts[0]?<;>exact bj
 |some x=>
  obtain⟨y,hy,hv⟩:=h.get hx;rw[hy];cases h0:ts[0]? with
  |none=>exact bj
  |some t0=>
   rw[h0] at ht;dsimp only at ht ⊢;refine dp.bH fun ds J4=>?_;rw[J4] at ht;cases ds<;>first|(cases ht;done)|skip
   all_goals (cases hv<;>first|exact bj|exact .dv (VR.int _ _))
theorem N9{x x' y y':ak}(hx:VR F ρ x x')(hy:VR F ρ y y'):bY P F (At ρ (VR F ρ)) ρ (Builtin.max2 x y) (Builtin.max2 x' y'):=by
 cases hx<;>cases hy<;>first
  |exact bj
  |exact cx (by simp)
  |exact .dv (.int _ _)
  |exact .dv (.string _)
theorem N8{x x' y y':ak}(hx:VR F ρ x x')(hy:VR F ρ y y'):bY P F (At ρ (VR F ρ)) ρ (Builtin.min2 x y) (Builtin.min2 x' y'):=by
 cases hx<;>cases hy<;>first
  |exact bj
  |exact cx (by simp)
  |exact .dv (.int _ _)
  |exact .dv (.string _)
theorem Be{f:ak→ak→jO ak}(hf : ∀ {x x' y y'},VR F ρ x x'→VR F ρ y y'→bY P F (At ρ (VR F ρ)) ρ (f x y) (f x' y')){l m:List ak}(h:PJ F ρ l m) :
  ∀ {x x':ak},VR F ρ x x'→bY P F (At ρ (VR F ρ)) ρ (l.foldlM f x) (m.foldlM f x'):=by
 induction h with
 |nil=>intro x x' hx;exact .dv hx
 |cons hy _ ih=>intro x x' hx;simp only[List.foldlM_cons];exact(hf hx hy).dN fun z z' hz=>ih hz
theorem Qe{ts:Array bg}{t:bg}{l m:Array ak}(h:iV F ρ l m):bY P F (At ρ (VR F ρ)) ρ (Builtin.max_ ts t l) (Builtin.max_ ts t m):=by
 unfold Builtin.max_;have hl:=h.list;generalize l.toList=l' at hl ⊢;generalize m.toList=m' at hl ⊢;cases hl with
 |nil=>exact bj
 |cons hx hl=>exact Be N9 hl hx
theorem Qd{ts:Array bg}{t:bg}{l m:Array ak}(h:iV F ρ l m):bY P F (At ρ (VR F ρ)) ρ (Builtin.min_ ts t l) (Builtin.min_ ts t m):=by
 unfold Builtin.min_;have hl:=h.list;generalize l.toList=l' at hl ⊢;generalize m.toList=m' at hl ⊢;cases hl with
 |nil=>exact bj
 |cons hx hl=>exact Be N8 hl hx
end
section
variable{P:aN}{F:Nat→Bool}{α β γ δ:Type}{A:Rn→α→β→Prop}{A':Rn→γ→δ→Prop}{ρ:Rn}
def og(P:aN)(s:jO α):Prop:=∀w es,(∃a w' es',s.runT P w es=(.ok a w',es'))∨∃h w' es',s.runT P w es=(.halt h w',es')∧EK h
theorem og.Ef{s:jO α}{f:α→jO γ}(h:og P s)(hf : ∀a,qO P (f a)):qO P (s >>= f):=fun w es=>by
 show ∃h w' es',(s.bind f).runT P w es=_∧_;rw[Sem.runT_bind'];rcases h w es with⟨a,w',es',h1⟩|⟨e,w',es',h1,h2⟩
 ·rw[h1];exact hf a w' es'
 ·rw[h1];exact⟨e,w',es',rfl,h2⟩
theorem og.bind{s:jO α}{f:α→jO γ}(h:og P s)(hf : ∀a,og P (f a)):og P (s >>= f):=fun w es=>by
 show(∃a w' es',(s.bind f).runT P w es=_)∨∃h w' es',(s.bind f).runT P w es=_∧_;rw[Sem.runT_bind'];rcases h w es with⟨a,w',es',h1⟩|⟨e,w',es',h1,h2⟩
 ·rw[h1];exact hf a w' es'
 ·rw[h1];exact .inr ⟨e,w',es',rfl,h2⟩
theorem mZ{a:α}:og P (fA a:jO α):=fun w es=>.inl ⟨a,w,es,rfl⟩
theorem Ir{r:Nat}:og P (shape r):=fun w es=>.inl ⟨_,w,es,rfl⟩
theorem Fl{a:dc}:og P (frozen a):=fun w es=>.inl ⟨_,w,es,rfl⟩
theorem zk{a:dc}{n:Nat}:og P (Builtin.holdsCells a n):=by
 unfold Builtin.holdsCells;refine Ir.bind fun s=>?_;cases s<;>exact mZ
theorem Cf{size pg n:Nat}{b:Option dc}{x:ak}:og P (qc size pg n b x):=by
 unfold qc
 have rest : ∀there:Bool,og P (if (!there)=true then(pure true:jO Bool) else match x with
   |.slice (some c) _ _=>do pure (!(←Builtin.holdsCells c (n*size))||b.any (·.block==c.block))
   |_=>pure false):=by
  intro there;split
  ·exact mZ
  ·split
   ·exact zk.bind fun _=>mZ
   ·exact mZ
 cases b with
 |none=>exact mZ.bind rest
 |some a=>exact zk.bind fun _=>Fl.bind fun _=>mZ.bind rest
theorem Lg{x x':ak}(h:VR F ρ x x'):bY P F (Same ρ fun _=>True) ρ (Builtin.lenOf x) (Builtin.lenOf x'):=by
 cases h<;>first|exact bj|exact cN
theorem o9{x x':ak}(h:VR F ρ x x')(size n:Nat):bY P F (At ρ (iV F ρ)) ρ (fH size n x) (fH size n x'):=by
 cases h<;>first|exact bj|exact .dv .nil|exact uT ‹_› _|exact .dv (iV.map fun _ _=>.int _ _)
theorem I7{z z':Array ak}(h:iV F ρ z z')(n:Nat):iV F ρ (gl z n) (gl z' n):=by
 unfold gl;rw[←h.size];have:=Gx h (n*z.size);rw[←h.size] at this;exact this
theorem G1{n:Nat}:bY P F (At ρ fun _ _=>True) ρ (askRoom n) (askRoom n):=by
 unfold askRoom;split
 ·exact .noRoom (.dv trivial)
 ·exact .dv trivial
def okZ(P:aN)(t?:Option bg):Bool:=match t? with|some t=>(match P.underlying t with|some (.int _)=>false|_=>true)|none=>true
def QS(P:aN)(ts:Array bg):Bool:=
 (match ts[0]? with|some t=>yB P t|none=>true)&&okZ P ts[1]?
theorem Ld{t?:Option bg}(ht:okZ P t?=true){J J':Bool→jO ak}(h:bY P F (VR F) ρ (J false) (J' false)) :
  bY P F (VR F) ρ (match (generalizing:=false) t? with|some t=>je t >>= fun d=>(fA (match d with|.int _=>true|_=>false):jO Bool) >>= J|none=>(fA false:jO Bool) >>= J)
   (match (generalizing:=false) t? with|some t=>je t >>= fun d=>(fA (match d with|.int _=>true|_=>false):jO Bool) >>= J'|none=>(fA false:jO Bool) >>= J'):=by
 cases t? with
 |none=>exact h
 |some t1=>
  refine dp.bH fun d1 hd1=>?_;simp only[okZ,hd1] at ht;cases d1<;>first|(cases ht;done)|exact h
theorem Jy{ts:Array bg}(ht:QS P ts=true){t:bg}{l m:Array ak}(h:iV F ρ l m):bY P F (VR F) ρ (kC ts t l) (kC ts t m):=by
 unfold kC;simp only[QS,aS] at ht;obtain⟨HV,rQ⟩:=ht;cases hx:l[0]? with
 |none=>cases ts[0]?<;>exact bj
 |some s=>
  obtain⟨s',hs',hsv⟩:=h.get hx;rw[hs'];cases h0:ts[0]? with
  |none=>exact bj
  |some t0=>
   cases hx1:l[1]? with
   |none=>exact bj
   |some x=>
    obtain⟨x',hx',hxv⟩:=h.get hx1;rw[hx'];rw[h0] at HV;simp only at HV;dsimp only;refine dp.bH fun ds J4=>?_;cases ds<;>first|exact bj|skip
    rename_i e;simp only[yB,J4] at HV;dsimp only
    have main : ∀ {b b':Option dc} (sl sc:Nat),VR F ρ (.slice b sl sc) (.slice b' sl sc)→bY P F (VR F) ρ
      (do
        let size ←sizeOf e
        let zeros ←match ts[1]? with
         |some xType=>do pure ((←je xType) matches .int _)
         |none=>pure false
        let n ←if zeros then do
          let l:=IntKind.i64.wrap (←asInt x)
          if l<0 then eL (.error "makeslice: len out of range")
          if l*(←lY e).bytes>2 ^ 48 then
           let made ←zH (.extern "append.ofMake.carriedOut" 2)
           eL (.error (if made==1 then "makeslice: len out of range" else "growslice: len out of range"))
          pure l.toNat
         else Builtin.lenOf x
        let appended:jO (Array ak):=
         if !zeros then fH size n x
         else if n*size=0 then pure #[]
         else do pure (gl (←ja e).cells n)
        let need:=sl+n
        if need≤sc then
         let new ←appended
         if let some a:=b then storeCells (a.add (sl*size)) new.toList
         pure (.slice b need sc)
        else
         if (need:Int)>IntKind.i64.max∧(zeros∨(←lY e).bytes=0) then eL (.error "growslice: len out of range")
         if Builtin.nextslicecap need sc*(←lY e).bytes>2 ^ 48 then(if zeros then eL (.error "growslice: len out of range") else do
          if !(←qc size sl n b x) then mark .noRoom
          qR (.resourceLimit "append: a slice or a string whose bytes no memory bears"))
         let mM ←zH (.appendCap need sc e)
         askRoom (mM*(←lY e).bytes)
         let old ←fH size sl (.slice b sl sc);let new ←appended;let rest:=gl (←ja e).cells (mM - need)
         pure (.slice (some (←newRow e (old ++ new ++ rest))) need mM))
      (do
        let size ←sizeOf e
        let zeros ←match ts[1]? with
         |some xType=>do pure ((←je xType) matches .int _)
         |none=>pure false
        let n ←if zeros then do
          let l:=IntKind.i64.wrap (←asInt x')
          if l<0 then eL (.error "makeslice: len out of range")
          if l*(←lY e).bytes>2 ^ 48 then
           let made ←zH (.extern "append.ofMake.carriedOut" 2)
           eL (.error (if made==1 then "makeslice: len out of range" else "growslice: len out of range"))
          pure l.toNat
         else Builtin.lenOf x'
        let appended:jO (Array ak):=
         if !zeros then fH size n x'
         else if n*size=0 then pure #[]
         else do pure (gl (←ja e).cells n)
        let need:=sl+n
        if need≤sc then
         let new ←appended
         if let some a:=b' then storeCells (a.add (sl*size)) new.toList
         pure (.slice b' need sc)
        else
         if (need:Int)>IntKind.i64.max∧(zeros∨(←lY e).bytes=0) then eL (.error "growslice: len out of range")
         if Builtin.nextslicecap need sc*(←lY e).bytes>2 ^ 48 then(if zeros then eL (.error "growslice: len out of range") else do
          if !(←qc size sl n b' x') then mark .noRoom
          qR (.resourceLimit "append: a slice or a string whose bytes no memory bears"))
         let mM ←zH (.appendCap need sc e)
         askRoom (mM*(←lY e).bytes)
         let old ←fH size sl (.slice b' sl sc);let new ←appended;let rest:=gl (←ja e).cells (mM - need)
         pure (.slice (some (←newRow e (old ++ new ++ rest))) need mM)):=by
     intro b b' sl sc hb;refine gW.bH fun size _=>?_;refine Ld rQ ?_;simp only[bF,if_false,false_or,Bool.not_false,if_true];refine(Lg hxv).bH fun n _=>?_;split
     ·refine(o9 hxv size n).dN fun new acE hn=>?_;cases hb with
      |DG=>exact .pure (.DG _ _)
      |slice _ _ ha=>exact(uj (ha.add _) hn.list 0).dN fun _ _ _=>.pure (.slice _ _ ha)
     ·refine jE.bH fun i _=>?_;split
      ·exact .dead ((pD (by simp) (by simp)).bind _)
      ·refine jE.bH fun i _=>?_;split
       ·refine .dead ?_;refine qO.bind (Cf.Ef fun a=>?_) _;cases a
        ·exact og.Ef (s:=mark .noRoom) (fun w es=>.inl ⟨(),w,_,rfl⟩) fun _=>fQ (by simp)
        ·exact fQ (by simp)
       ·refine uV.bH fun cap _=>jE.bH fun i _=>G1.dN fun _ _ _=>?_;refine(o9 hb size sl).dN fun old ahC ho=>(o9 hxv size n).dN fun new acE hn=>?_;refine(lI HV).dN fun z z' hz=>?_;exact bY.bind (uS ((ho.append hn).append (I7 hz.cells _))) fun ρ' a a' _ ha=>.pure (.slice _ _ ha)
    cases hsv with
    |DG sl sc=>exact main sl sc (.DG _ _)
    |slice sl sc ha=>exact main sl sc (.slice _ _ ha)
    |_=>exact bj
inductive NR(F:Nat→Bool)(ρ:Rn):Next→Next→Prop
 |value {v v':ak}:VR F ρ v v'→NR F ρ (.value v) (.value v')
 |skip:NR F ρ .skip .skip
 |enter {f:eD} {l m:Array ak}:F f=true→iV F ρ l m→NR F ρ (.enter f l) (.enter f m)
 |send {ch v:ak} {n:Next}:NR F ρ (.comm #[{ chan:=ch,send:=some v,zero:=.tuple #[] }] true .send) n
theorem nT{s s':jO ak}(h:bY P F (VR F) ρ s s'):bY P F (NR F) ρ (do pure (.value (←s))) (do pure (.value (←s'))):=h.bind fun ρ' v v' _ hv=>.pure (.value hv)
theorem ik{s s':jO ak}(h:bY P F (At ρ (VR F ρ)) ρ s s'):bY P F (NR F) ρ (do pure (.value (←s))) (do pure (.value (←s'))):=h.dN fun v v' hv=>.pure (.value hv)
theorem Ba{s s':jO Unit}(h:bY P F (At ρ fun _ _=>True) ρ s s'):bY P F (NR F) ρ (do s;pure .skip) (do s';pure .skip):=h.dN fun _ _ _=>.pure .skip
def SY(P:aN)(F:Nat→Bool):Prop:=∀f,F f=true→∃fn,P.funcs[f]?=some fn∧fn.body.isSome=true∧(fn.name == "runtime.NumGoroutine")=false
theorem E0(hF:SY P F){f:eD}(hf:F f=true){l m:Array ak}(h:iV F ρ l m):bY P F (NR F) ρ (callFunc f l) (callFunc f m):=by
 obtain⟨fn,h1,h2,h3⟩:=hF f hf;unfold callFunc;refine kF ?_;have h4:fn.body.isNone=false:=by cases hb:fn.body<;>simp_all
 simp only[h1,h3,h4,bF,if_false];exact .pure (.enter hf h)
def zU(F:Nat→Bool):cB→Bool
 |.tmp _=>true
 |.const v=>Eb v
 |.global _=>false
 |.func f=>F f
def okB(P:aN)(ts:Array bg):Builtin→Bool
 |.append=>QS P ts
 |.len=>QR P ts
 |.max|.min=>true
 |_=>false
def isInt:cB→Bool
 |.const (.int _ _)=>true
 |_=>false
def ZQ(P:aN)(t:bg):Bool:=P.underlying t matches some (.int _)
def TH(P:aN)(F:Nat→Bool)(op:Op):Bool:=op.operands.all (zU F)&&match op with
 |.move _|.assign _|.pick ..|.box ..|.load ..|.store ..|.indexAddr ..|.index ..|.extract ..|.send ..=>true
 |.alloc e=>oD P e
 |.build t _=>oD P t
 |.buildSlice t _ _=>yB P t
 |.binOp op t _ y _=>ZQ P t&&(U5 op||((op matches .eql | .neq)&&isInt y))
 |.makeFunc (.func f) _ _=>F f
 |.makeMap _ none=>true
 |.fieldAddr s _ f=>Hf P s f
 |.lookup t _ _ _=>QQ P t
 |.mapUpdate t _ _ _=>LG P t
 |.call c=>(match c.callee with|.builtin b=>okB P c.argTypes b|.value _=>true|.invoke ..=>false)
 |_=>false
theorem kr{fr fr':bP}(h:iV F ρ fr.tmps fr'.tmps){x:cB}(hx:zU F x=true):VR F ρ (fr.eval x) (fr'.eval x):=by
 cases x with
 |tmp t=>exact h.getD tH t
 |const v=>exact yR hx
 |global g=>cases hx
 |func f=>exact .func hx rfl (fun i x y h=>by simp at h) rfl (fun i x y h=>by simp at h)
theorem Ww{fr fr':bP}(h:iV F ρ fr.tmps fr'.tmps){l:Array cB}(hl:l.all (zU F)=true):iV F ρ (l.map fr.eval) (l.map fr'.eval):=
 iV.map fun x hx=>kr h (kn.1 hl x hx)
theorem LC{fr fr':bP}(h:iV F ρ fr.tmps fr'.tmps) : ∀ {l:List (Nat × cB)},(l.all fun p=>zU F p.2)=true→
  PL F ρ (l.map fun(i,x)=>(i,fr.eval x)) (l.map fun(i,x)=>(i,fr'.eval x))
 |[],_=>.nil
 |(i,x) :: l,hl=>by
  simp only[fE,aS] at hl;exact .cons (kr h hl.1) (LC h hl.2)
theorem Ju(hF:SY P F)(R:SD P ρ){fr fr':bP}(h:iV F ρ fr.tmps fr'.tmps){o:Oper}(ho:TH P F o.op=true):bY P F (NR F) ρ (dX fr.eval o) (dX fr'.eval o):=by
 unfold TH at ho;rw[aS] at ho;obtain⟨h1,h2⟩:=ho;unfold dX;obtain⟨dst,op,type,pos,after,guard⟩:=o;dsimp only at h1 h2 ⊢;cases op<;>first|(cases h2;done)|skip
 all_goals simp only[Op.operands,List.all_toArray,fE,List.all_nil,Bool.and_true,aS] at h1
 case move x=>exact .pure (.value (kr h h1))
 case assign x=>exact .pure (.value (kr h h1))
 case pick c a b=>
  refine bY.bH (C:=fun _=>True) (s:=asBool (fr.eval c)) (s':=asBool (fr'.eval c)) ?_ fun t _=>?_
  ·have hc:=kr h h1.1;revert hc;generalize fr.eval c=v;generalize fr'.eval c=v';intro hc;cases hc<;>first|exact bj|exact cN
  ·cases t
   ·exact bY.pure (NR.value (kr h h1.2.2))
   ·exact bY.pure (NR.value (kr h h1.2.1))
 case alloc e=>exact nT (Lm h2)
 case box e x=>exact nT (Qg (kr h h1))
 case build t ps=>
  refine ik (Li h2 ?_);simp only[Array.toList_map];exact LC h (by simpa [List.all_map,Function.comp_def] using h1)
 case buildSlice t n ps=>
  refine nT (BZ h2 ?_);simp only[Array.toList_map];exact LC h (by simpa [List.all_map,Function.comp_def] using h1)
 case load t a=>exact ik (Jr (kr h h1))
 case store t a v=>exact Ba (GQ (kr h h1.1) (kr h h1.2))
 case binOp op t x y yt=>
  simp only[aS,Bool.or_eq_true] at h2;have hx:=kr h h1.1;have hy:=kr h h1.2
  have ht : ∃k,P.underlying t=some (.int k):=by
   have:=h2.1;unfold ZQ at this;split at this
   ·exact⟨_,‹_›⟩
   ·cases this
  obtain⟨k,ht⟩:=ht;refine nT ?_;rcases h2.2 with hop|⟨hop,hint⟩
  ·have e : ∀a b,eqGuard op t x y a b=fA ():=fun a b=>by cases op<;>first|rfl|cases hop
   rw[e,e];exact Lj R ht hop hx hy
  ·have hyi : ∃k n,y=.const (.int k n):=by
    unfold isInt at hint;split at hint
    ·exact⟨_,_,rfl⟩
    ·cases hint
   obtain⟨ky,ny,rfl⟩:=hyi;have hy1:fr.eval (.const (.int ky ny))=.int ky ny:=rfl;have hy2:fr'.eval (.const (.int ky ny))=.int ky ny:=rfl;rw[hy1,hy2] at *
   have e : ∀a,eqGuard op t x (.const (.int ky ny)) a (.int ky ny)=fA ():=fun a=>by
    have WW:op=.eql∨op=.neq:=by cases op<;>first|exact .inl rfl|exact .inr rfl|cases hop
    rcases WW with rfl|rfl<;>cases a<;>rfl
   rw[e,e];show bY P F (VR F) ρ (binOp op t (fr.eval x) (.int ky ny)) (binOp op t (fr'.eval x) (.int ky ny));generalize fr.eval x=v at hx ⊢;generalize fr'.eval x=v' at hx ⊢;have hpl:pj P 1 t=true:=by simp only[pj,ht]
   have heq:=pJ R 1 Op.maxDepth t hpl v v' _ _ hx (.int (F:=F) (ρ:=ρ) ky ny);have WW:op=.eql∨op=.neq:=by cases op<;>first|exact .inl rfl|exact .inr rfl|cases hop
   rcases WW with rfl|rfl
   ·cases hx<;>first
     |exact uU
     |exact heq.bH fun b _=>.pure (.bool _)
   ·cases hx<;>first
     |exact uU
     |exact heq.bH fun b _=>.pure (.bool _)
 case makeFunc fn fs cs=>
  cases fn<;>first|(cases h2;done)|skip
  rename_i f;simp only[Array.all_append,aS] at h1;have e1:=Ww h h1.1;have e2:=Ww h h1.2;exact .pure (NR.value (.func h2 e1.size e1.at_ e2.size e2.at_))
 case makeMap t r=>
  cases r<;>first|(cases h2;done)|skip
  exact nT GU
 case fieldAddr s x f=>exact ik (GY h2 (kr h h1))
 case indexAddr t x i=>exact ik (GX (kr h h1.1) (kr h h1.2))
 case index t x i=>exact ik (Lh (kr h h1.1) (kr h h1.2))
 case lookup t x i ok=>exact ik (Jq R h2 (kr h h1.1) (kr h h1.2) ok)
 case mapUpdate t m k v=>exact Ba (C9 R h2 (kr h h1.1) (kr h h1.2.1) (kr h h1.2.2))
 case send ch x=>exact bY.pure NR.send
 case extract x i=>exact ik (GZ (kr h h1) i)
 case call c=>
  obtain⟨callee,args,ats⟩:=c;simp only[Call.operands,Array.all_append,aS] at h1;have ha:=Ww h h1.2;dsimp only at h2;cases callee<;>first|(cases h2;done)|skip
  case builtin b=>
   cases b<;>first|(cases h2;done)|skip
   ·exact nT (Jy h2 ha)
   ·exact ik (Qf h2 ha)
   ·exact ik (Qe ha)
   ·exact ik (Qd ha)
  case value f=>
   have hf:=kr h (x:=f) (by simpa using h1.1);unfold resolve;dsimp only;revert hf;generalize fr.eval f=v;generalize fr'.eval f=v';intro hf;cases hf<;>first|exact bj|exact gJ (e:=.nilDeref)|skip
   rename_i f fs fs' cs cs' hFf h3 h4 h5 h6;exact E0 hF hFf (((iV.mk h3 h4).append ha).append ⟨h5,h6⟩)
end
def Na(P:aN)(F:Nat→Bool)(o:Oper):Bool:=TH P F o.op
def iq(P:aN)(F:Nat→Bool):Code→Bool
 |.skip|.exit _|.label _|.ret=>true
 |.region _ ops _=>ops.all (Na P F)
 |.seq a b=>iq P F a&&iq P F b
 |.cond c a b=>zU F c&&iq P F a&&iq P F b
 |.block _ c|.loop c=>iq P F c
 |_=>false
def iX(P:aN)(F:Nat→Bool):oZ→Bool
 |.code c|.inLoop c=>iq P F c
 |.inBlock _=>true
 |.inRegion ops _=>ops.all (Na P F)
 |_=>false
structure tq(P:aN)(F:Nat→Bool):Prop where
 text : ∀f,F f=true→∃fn c,P.funcs[f]?=some fn∧fn.body=some c∧iq P F c=true∧(fn.name == "runtime.NumGoroutine")=false
theorem tq.body{P:aN}{F:Nat→Bool}(h:tq P F):SY P F:=fun f hf=>by
 obtain⟨fn,c,h1,h2,_,h3⟩:=h.text f hf;exact⟨fn,h1,by rw[h2];rfl,h3⟩
def js(fn:eD)(tmps:Array ak)(todo:List oZ)(mode:FrameMode)(kd:jL):Frame:={ fn,tmps,todo,defers:=[],mode,kind:=kd,roundOf:=none }
abbrev Fr(fn:eD)(tmps:Array ak)(todo:List oZ)(mode:FrameMode):Frame:=js fn tmps todo mode .normal
inductive FR(P:aN)(F:Nat→Bool)(ρ:Rn)(k:List oZ)(kd:jL):bP→bP→Prop
 |run {fn:eD} {tmps bA:Array ak} {todo:List oZ}:iV F ρ tmps bA→todo.all (iX P F)=true→FR P F ρ k kd (Fr fn tmps todo .run) (js fn bA (todo ++ k) .run kd)
 |ret {fn:eD} {tmps bA:Array ak} {todo MW:List oZ}:iV F ρ tmps bA→FR P F ρ k kd (Fr fn tmps todo .returning) (js fn bA MW .returning kd)
theorem FR.mono{P:aN}{F:Nat→Bool}{ρ ρ':Rn}{k:List oZ}{kd:jL}{fr fr':bP}(h:FR P F ρ k kd fr fr')(hl:Rn.le ρ ρ'):FR P F ρ' k kd fr fr':=by
 cases h with
 |run h1 h2=>exact .run (h1.mono hl) h2
 |ret h1=>exact .ret (h1.mono hl)
theorem FR.defers{P:aN}{F:Nat→Bool}{ρ:Rn}{k:List oZ}{kd:jL}{fr fr':bP}(h:FR P F ρ k kd fr fr'):fr.defers=[]:=by cases h<;>rfl
theorem FR.kinds{P:aN}{F:Nat→Bool}{ρ:Rn}{k:List oZ}{kd:jL}{fr fr':bP}(h:FR P F ρ k kd fr fr'):fr.kind=.normal∧fr'.kind=kd:=by cases h<;>exact⟨rfl,rfl⟩
inductive SR(P:aN)(F:Nat→Bool)(ρ:Rn)(k:List oZ)(kd:jL)(cs:List bP):bP→List bP→bP→List bP→Prop
 |base {fr fr':bP}:FR P F ρ k kd fr fr'→P.inits.idxOf? fr.fn=none→SR P F ρ k kd cs fr [] fr' cs
 |up {fr fr' c c':bP} {r r':List bP}:FR P F ρ [] .normal fr fr'→c.todo≠[]→c.mode=.run→SR P F ρ k kd cs c r c' r'→SR P F ρ k kd cs fr (c :: r) fr' (c' :: r')
theorem SR.mono{P:aN}{F:Nat→Bool}{ρ ρ':Rn}{k:List oZ}{kd:jL}{cs:List bP}{fr fr':bP}{l l':List bP}(h:SR P F ρ k kd cs fr l fr' l')(hl:Rn.le ρ ρ'):SR P F ρ' k kd cs fr l fr' l':=by
 induction h with
 |base h1 h2=>exact .base (h1.mono hl) h2
 |up h1 h2 h3 _ ih=>exact .up (h1.mono hl) h2 h3 ih
theorem SR.defers{P:aN}{F:Nat→Bool}{ρ:Rn}{k:List oZ}{kd:jL}{cs:List bP}{fr fr':bP}{l l':List bP}(h:SR P F ρ k kd cs fr l fr' l'):fr.defers=[]∧∀c∈l,c.defers=[]:=by
 induction h with
 |base h1 h2=>exact⟨h1.defers,by simp⟩
 |up h1 h2 h3 _ ih=>
  refine⟨h1.defers,fun c hc=>?_⟩;rcases cC.1 hc with rfl|hc
  ·exact ih.1
  ·exact ih.2 c hc
def MN(g:aF):Prop:=g.dying≠none∨g.status≠.running∨∃chain,g.frame.mode=.panicking chain∧g.frame.defers=[]∧∀c∈g.callers,c.defers=[]
section
variable{P:aN}{F:Nat→Bool}{G':Nat}{B:Nat→Prop}{ρ:Rn}{k:List oZ}{kd:jL}{cs:List bP}{lw w:ar}{main:Bool}
theorem raise_mode(fr:bP)(c:List PanicEntry) : ∃ch,(fr.raise c).mode=.panicking ch∧(fr.raise c).defers=fr.defers:=by
 unfold Frame.raise;cases fr.mode<;>exact⟨_,rfl,rfl⟩
theorem N1{g:aF}(h:MN g)(hd:g.dying=none)(hr:g.status=.running):(∃o w1 es,fK P true g lw=.ended o w1 es)∨∃g1 w1 es,fK P true g lw=.go g1 w1 es∧MN g1:=by
 rcases h with h|h|⟨chain,h1,h2,h3⟩
 ·exact absurd hd h
 ·exact absurd hr h
 obtain⟨fr,cs,st,dy,off⟩:=g;obtain⟨fn,tmps,todo,defers,mode,kind,roundOf⟩:=fr;dsimp only at hd hr h1 h2 h3;subst hd;subst h1;subst h2;have e:fK P true ⟨⟨fn,tmps,todo,[],.panicking chain,kind,roundOf⟩,cs,st,none,off⟩ lw=lX P true ⟨fn,tmps,todo,[],.panicking chain,kind,roundOf⟩ cs none lw:=by unfold fK;rfl
 rw[e];unfold lX;dsimp only;split
 ·exact .inl ⟨_,_,_,rfl⟩
 ·cases cs with
  |cons c r=>
   obtain⟨ch,e1,e2⟩:=raise_mode c chain;exact .inr ⟨_,_,_,rfl,.inr (.inr ⟨ch,e1,e2.trans (h3 c (by simp)),fun x hx=>h3 x (by simp[hx])⟩)⟩
  |nil=>
   dsimp only;split
   ·exact .inr ⟨_,_,_,rfl,.inr (.inl (by simp))⟩
   ·split
    ·exact .inr ⟨_,_,_,rfl,.inl (by simp)⟩
    ·exact .inl ⟨_,_,_,rfl⟩
    ·exact .inl ⟨_,_,_,rfl⟩
def GD(P:aN)(F:Nat→Bool)(G':Nat)(B:Nat→Prop)(ρ:Rn)(k:List oZ)(kd:jL)(cs:List bP)(lw w:ar)(s s':GStep):Prop:=
 (∃o jX es,s=.ended o jX es)∨(∃g1 jX es,s=.go g1 jX es∧MN g1)∨
 (∃g1 ch v jX es,s=.comm g1 #[{ chan:=ch,send:=some v,zero:=.tuple #[] }] true .send jX es∧∀(b:Nat) (o:Obj),jX.heap[b]?=some o→o.isChan=false)∨
 ∃Ff l1 jX es wA TS w1 evs ρ1,s=.go (G Ff l1) jX es∧s'=.go (G wA TS) w1 evs∧SR P F ρ1 k kd cs Ff l1 wA TS∧mP F G' B ρ lw w ρ1 jX w1 evs
theorem gI(hw:WR F G' B ρ lw w){Ff wA:bP}{l1 TS:List bP}(h:SR P F ρ k kd cs Ff l1 wA TS){s s':GStep}(e:s=.go (G Ff l1) lw #[])(e':s'=.go (G wA TS) w #[]):GD P F G' B ρ k kd cs lw w s s':=
 .inr (.inr (.inr ⟨_,_,_,_,_,_,_,_,ρ,e,e',h,.refl hw⟩))
theorem mP.seen{ρ':Rn}{eM w':ar}{es:Array gy}(h:mP F G' B ρ lw w ρ' eM w' es)(fn:eD):mP F G' B ρ lw w ρ' eM w' (seen P fn es ++ #[]):=
 h.more fun e he=>h.evs e (mem_seen (by simpa using he))
theorem SR.set{fr fr' Ff wA:bP}{l l':List bP}(h:SR P F ρ k kd cs fr l fr' l')(hfn:Ff.fn=fr.fn)(h0:l=[]→FR P F ρ k kd fr fr'→FR P F ρ k kd Ff wA)(h1:l≠[]→FR P F ρ [] .normal fr fr'→FR P F ρ [] .normal Ff wA):SR P F ρ k kd cs Ff l wA l':=by
 cases h with
 |base h h'=>exact .base (h0 rfl h) (hfn▸h')
 |up h a b r=>exact .up (h1 (by simp) h) a b r
theorem lU{x:oZ}{t:List oZ}(h:(x :: t).all (iX P F)=true):iX P F x=true∧t.all (iX P F)=true:=by simpa using h
theorem iP{x:oZ}{t:List oZ}(h:iX P F x=true)(h':t.all (iX P F)=true):(x :: t).all (iX P F)=true:=by simp[h];simpa using h'
theorem xH{id:Nat}{k:List oZ} : ∀ {t t':List oZ},exitTo id t=some t'→exitTo id (t ++ k)=some (t' ++ k)
 |[],t',h=>by cases h
 |x :: t,t',h=>by
  cases x<;>simp only[iM,exitTo] at h ⊢<;>first|exact xH h|skip
  split at h
  ·rename_i hh;rw[if_pos hh];cases h;rfl
  ·rename_i hh;rw[if_neg hh];exact xH h
theorem xG{id:Nat} : ∀ {t t':List oZ},t.all (iX P F)=true→exitTo id t=some t'→t'.all (iX P F)=true
 |[],t',ht,h=>by cases h
 |x :: t,t',ht,h=>by
  have WL:=(lU ht).2;cases x<;>simp only[exitTo] at h<;>first|exact xG WL h|skip
  split at h
  ·cases h;exact WL
  ·exact xG WL h
theorem CO{fn:eD}{tmps bA:Array ak}{ops:Array Oper}{i:Nat}{rest:List Nat}{t k:List oZ}(h:iV F ρ tmps bA)(ht:(Item.inRegion ops (i :: rest) :: t).all (iX P F)=true){v v':ak}(hv:VR F ρ v v') :
  FR P F ρ k kd ((Fr fn tmps (.inRegion ops (i :: rest) :: t) .run).finish v) ((js fn bA (.inRegion ops (i :: rest) :: t ++ k) .run kd).finish v'):=by
 unfold Frame.finish Fr js;simp only[iM];have B8:(Item.inRegion ops rest :: t).all (iX P F)=true:=iP (lU ht).1 (lU ht).2;cases(ops[i]?).bind (·.dst) with
 |none=>exact .run (todo:=.inRegion ops rest :: t) h B8
 |some d=>exact .run (todo:=.inRegion ops rest :: t) (h.set hv d) B8
theorem Ah(fr:bP)(v:ak):(fr.finish v).fn=fr.fn:=by
 unfold Frame.finish;split<;>rfl
end
section
variable{P:aN}{F:Nat→Bool}{B:Nat→Prop}{ρ:Rn}{k:List oZ}{kd:jL}{cs:List bP}{lw w:ar}{main:Bool}
theorem WR.rok(h:WR F P.globals.size B ρ lw w):SD P ρ:=⟨h.inj,h.low⟩
theorem RU(hF:tq P F){f:eD}(hf:F f=true){l m:Array ak}(h:iV F ρ l m):FR P F ρ [] .normal (eH P f l .normal) (eH P f m .normal):=by
 obtain⟨fn,c,h1,h2,h3,_⟩:=hF.text f hf;unfold eH;simp only[h1,ej,Option.getD_some,iK,h2];have:=FR.run (P:=P) (F:=F) (ρ:=ρ) (k:=[]) (kd:=.normal) (fn:=f) (todo:=[.code c]) (h.append (iV.replicate tH (fn.ntmps - l.size))) (by simpa [iX] using h3);rw[h.size] at this;rw[h.size];exact this
theorem opR(hF:tq P F)(hw:WR F P.globals.size B ρ lw w)(ht:vF lw w)(hG:P.globals.size≤lw.heap.size)(Vy:P.globals.size≤w.heap.size)
  {fn:eD} {tmps bA:Array ak} {ops:Array Oper} {i:Nat} {rest:List Nat} {t t':List oZ} {l l':List bP} (YE:(Item.inRegion ops (i :: rest) :: t).all (iX P F)=true)
  (hT:t'=t ++ (if l=[] then k else[])) {kk:jL} (hK:kk=if l=[] then kd else .normal) (hE:kd≠.early)
  (h:SR P F ρ k kd cs (Fr fn tmps (.inRegion ops (i :: rest) :: t) .run) l (js fn bA (.inRegion ops (i :: rest) :: t') .run kk) l') (ha:iV F ρ tmps bA) {o:Oper} (ho:ops[i]?=some o) :
  GD P F P.globals.size B ρ k kd cs lw w (eE P true (Fr fn tmps (.inRegion ops (i :: rest) :: t) .run) l none (dX (Fr fn tmps (.inRegion ops (i :: rest) :: t) .run).eval o) lw)
   (eE P true (js fn bA (.inRegion ops (i :: rest) :: t') .run kk) l' none (dX (js fn bA (.inRegion ops (i :: rest) :: t') .run kk).eval o) w):=by
 have cZ:TH P F o.op=true:=by
  have:=(lU YE).1;exact kn.1 this o (Array.mem_of_getElem? ho)
 have hs:=Ju hF.body hw.rok (fr:=Fr fn tmps (.inRegion ops (i :: rest) :: t) .run) (fr':=js fn bA (.inRegion ops (i :: rest) :: t') .run kk) ha cZ
 have nH : ∀ {ρ':Rn} {v v':ak},Rn.le ρ ρ'→VR F ρ' v v'→SR P F ρ' k kd cs ((Fr fn tmps (.inRegion ops (i :: rest) :: t) .run).finish v) l ((js fn bA (.inRegion ops (i :: rest) :: t') .run kk).finish v') l':=by
  intro ρ' v v' hle hv;refine(h.mono hle).set (Ah _ _) (fun hl _=>?_) fun hl _=>?_
  ·rw[if_pos hl] at hT hK;subst hT;subst hK;exact CO (k:=k) (ha.mono hle) YE hv
  ·rw[if_neg hl] at hT hK;subst hT;subst hK;exact CO (k:=[]) (ha.mono hle) YE hv
 rcases hs.runT hw ht hG Vy #[] #[] with⟨a,jX,le,b,w1,evs,ρ1,h1,h2,h3,h4⟩|⟨e,jX,le,h1,h2⟩
 ·simp only[fJ] at h2
  have Uc:(kk == .early)=false:=by
   rw[hK];split
   ·exact beq_eq_false_iff_ne.2 hE
   ·rfl
  unfold eE;simp only[if_true,h1,h2];simp only[js,Uc,bF,if_false];cases h3 with
  |value hv=>
   refine .inr (.inr (.inr ⟨_,_,_,_,_,_,_,_,ρ1,rfl,rfl,nH h4.le hv,?_⟩));exact h4.seen fn
  |skip=>
   refine .inr (.inr (.inr ⟨_,_,_,_,_,_,_,_,ρ1,rfl,rfl,nH h4.le tH,?_⟩));exact h4.seen fn
  |enter hf aaD=>
   refine .inr (.inr (.inr ⟨_,_,_,_,_,_,_,_,ρ1,rfl,rfl,.up (RU hF hf aaD) (by simp[Fr]) rfl (h.mono h4.le),?_⟩));exact h4.seen fn
  |send=>exact .inr (.inr (.inl ⟨_,_,_,_,_,rfl,h4.wr.Hh⟩))
 ·unfold eE;simp only[if_true,h1];have hd:=h.defers;cases e with
  |panic v=>
   obtain⟨ch,e1,e2⟩:=raise_mode (Fr fn tmps (.inRegion ops (i :: rest) :: t) .run) [{ v,recovered:=false }];exact .inr (.inl ⟨_,_,_,rfl,.inr (.inr ⟨ch,e1,e2.trans hd.1,hd.2⟩)⟩)
  |stuck s=>exact .inl ⟨_,_,_,rfl⟩
  |unsupported u=>
   cases u<;>first|exact absurd h2 id|exact .inl ⟨_,_,_,rfl⟩
  |_=>exact absurd h2 id
theorem SR.top{fr fr':bP}{l l':List bP}(h:SR P F ρ k kd cs fr l fr' l'):FR P F ρ (if l=[] then k else[]) (if l=[] then kd else .normal) fr fr':=by
 cases h with
 |base h _=>simpa using h
 |up h _ _ _=>simpa using h
theorem SR.set'{fr fr' Ff wA:bP}{l l':List bP}(h:SR P F ρ k kd cs fr l fr' l')(hfn:Ff.fn=fr.fn)(h1:FR P F ρ (if l=[] then k else[]) (if l=[] then kd else .normal) Ff wA):SR P F ρ k kd cs Ff l wA l':=
 h.set hfn (fun hl _=>by simpa [hl] using h1) fun hl _=>by simpa [hl] using h1
theorem PZ{tmps bA:Array ak}(ha:iV F ρ tmps bA)(ops:Array Oper):yielded ops bA=yielded ops tmps:=by
 funext j
 unfold yielded;cases(ops[j]?).bind (·.dst) with
 |none=>rfl
 |some d=>
  simp only[iK];cases hx:tmps[d]? with
  |none=>rw[ha.none hx]
  |some x=>
   obtain⟨y,hy,hv⟩:=ha.get hx;rw[hy];cases hv<;>rfl
theorem aaT(hF:tq P F)(hw:WR F P.globals.size B ρ lw w)(ht:vF lw w)(hG:P.globals.size≤lw.heap.size)(Vy:P.globals.size≤w.heap.size)
  {fn:eD} {tmps bA:Array ak} {todo:List oZ} {l l':List bP} (h:SR P F ρ k kd cs (Fr fn tmps todo .run) l (js fn bA (todo ++ if l=[] then k else[]) .run (if l=[] then kd else .normal)) l') (hE:kd≠.early)
  (ha:iV F ρ tmps bA) (cZ:todo.all (iX P F)=true) (hk:l=[]→todo=[]→k=[]) :
  GD P F P.globals.size B ρ k kd cs lw w (cg P true true (Fr fn tmps todo .run) l none lw) (cg P main true (js fn bA (todo ++ if l=[] then k else[]) .run (if l=[] then kd else .normal)) l' none w):=by
 have xC:todo=[]→(if l=[] then k else[])=[]:=fun e=>by
  split
  ·rename_i hl;exact hk hl e
  ·rfl
 generalize tv:(if l=[] then k else[])=kk at h xC ⊢;generalize Cc:(if l=[] then kd else CallKind.normal)=I0 at h ⊢;have BW : ∀t:List oZ,t.all (iX P F)=true→SR P F ρ k kd cs (Fr fn tmps t .run) l (js fn bA (t ++ kk) .run I0) l':=fun t YE=>h.set' rfl (by rw[tv,Cc];exact .run ha YE);have Zc : ∀t t':List oZ,SR P F ρ k kd cs (Fr fn tmps t .returning) l (js fn bA t' .returning I0) l':=fun t t'=>h.set' rfl (by rw[Cc];exact .ret ha);cases todo with
 |nil=>
  rw[xC rfl] at h ⊢;exact gI hw (Zc [] []) rfl rfl
 |cons x t=>
  obtain⟨hx,HV⟩:=lU cZ;cases x with
  |inBlock id=>exact gI hw (BW t HV) rfl rfl
  |inLoop c=>exact gI hw (BW (.code c :: .inLoop c :: t) (iP hx (iP hx HV))) rfl rfl
  |inRegion ops todo=>
   cases todo with
   |nil=>exact gI hw (BW t HV) rfl rfl
   |cons i rest=>
    have hy:=PZ ha ops
    by_cases U8:((ops[i]?).map (Region.wanted · (yielded ops tmps))).getD false=true
    ·have e1:cg P true true (Fr fn tmps (.inRegion ops (i :: rest) :: t) .run) l none lw=fG P true (Fr fn tmps (.inRegion ops (i :: rest) :: t) .run) l none lw:=if_pos U8
     have e2:cg P main true (js fn bA (.inRegion ops (i :: rest) :: t ++ kk) .run I0) l' none w=fG P true (js fn bA (.inRegion ops (i :: rest) :: (t ++ kk)) .run I0) l' none w:=by
      rw[←hy] at U8;exact if_pos U8
     rw[e1,e2];cases ho:ops[i]? with
     |none=>rw[ho] at U8;cases U8
     |some o=>
      have e3:fG P true (Fr fn tmps (.inRegion ops (i :: rest) :: t) .run) l none lw=eE P true (Fr fn tmps (.inRegion ops (i :: rest) :: t) .run) l none (dX (Fr fn tmps (.inRegion ops (i :: rest) :: t) .run).eval o) lw:=by
       unfold fG;have:(Fr fn tmps (.inRegion ops (i :: rest) :: t) .run).oper?=some o:=ho;rw[this];rfl
      have e4:fG P true (js fn bA (.inRegion ops (i :: rest) :: (t ++ kk)) .run I0) l' none w=eE P true (js fn bA (.inRegion ops (i :: rest) :: (t ++ kk)) .run I0) l' none (dX (js fn bA (.inRegion ops (i :: rest) :: (t ++ kk)) .run I0).eval o) w:=by
       unfold fG;have:(js fn bA (.inRegion ops (i :: rest) :: (t ++ kk)) .run I0).oper?=some o:=ho;rw[this];rfl
      rw[e3,e4];exact opR hF hw ht hG Vy cZ (by rw[tv];rfl) Cc.symm hE h ha ho
    ·have e1:cg P true true (Fr fn tmps (.inRegion ops (i :: rest) :: t) .run) l none lw=.go (G ((Fr fn tmps (.inRegion ops (i :: rest) :: t) .run).finish af) l) lw:=if_neg U8
     have e2:cg P main true (js fn bA (.inRegion ops (i :: rest) :: t ++ kk) .run I0) l' none w=.go (G ((js fn bA (.inRegion ops (i :: rest) :: t ++ kk) .run I0).finish af) l') w:=by
      rw[←hy] at U8;exact if_neg U8
     exact gI hw (h.set' (Ah _ _) (by rw[tv,Cc];exact CO ha cZ tH)) e1 e2
  |code c=>
   cases c with
   |ret=>exact gI hw (Zc _ _) rfl rfl
   |skip=>exact gI hw (BW t HV) rfl rfl
   |label n=>exact gI hw (BW t HV) rfl rfl
   |seq a b=>
    have hx':iq P F a=true∧iq P F b=true:=by simpa [iX,iq] using hx
    exact gI hw (BW (.code a :: .code b :: t) (iP hx'.1 (iP hx'.2 HV))) rfl rfl
   |cond c a b=>
    have hx':(zU F c=true∧iq P F a=true)∧iq P F b=true:=by simpa [iX,iq] using hx
    have hv:=kr (fr:=Fr fn tmps (.code (.cond c a b) :: t) .run) (fr':=js fn bA (.code (.cond c a b) :: t ++ kk) .run I0) ha hx'.1.1
    have e1:cg P true true (Fr fn tmps (.code (.cond c a b) :: t) .run) l none lw=(match (Fr fn tmps (.code (.cond c a b) :: t) .run).eval c with
     |.bool x=>.go (G (Fr fn tmps (.code (if x then a else b) :: t) .run) l) lw
     |_=>.ended (.stuck "cond: bool expected" ((Fr fn tmps (.code (.cond c a b) :: t) .run).pos P)) lw):=rfl
    have e2:cg P main true (js fn bA (.code (.cond c a b) :: t ++ kk) .run I0) l' none w=(match (js fn bA (.code (.cond c a b) :: t ++ kk) .run I0).eval c with
     |.bool x=>.go (G (js fn bA (.code (if x then a else b) :: t ++ kk) .run I0) l') w
     |_=>.ended (.stuck "cond: bool expected" ((js fn bA (.code (.cond c a b) :: t ++ kk) .run I0).pos P)) w):=rfl
    rw[e1,e2];generalize (Fr fn tmps (.code (.cond c a b) :: t) .run).eval c=v at hv ⊢;generalize (js fn bA (.code (.cond c a b) :: t ++ kk) .run I0).eval c=v' at hv ⊢;cases hv<;>first|exact .inl ⟨_,_,_,rfl⟩|skip
    rename_i x;refine gI hw (BW (.code (if x then a else b) :: t) (iP ?_ HV)) rfl rfl;cases x
    ·exact hx'.2
    ·exact hx'.1.2
   |block id c=>exact gI hw (BW (.code c :: .inBlock id :: t) (iP hx (iP rfl HV))) rfl rfl
   |loop c=>exact gI hw (BW (.code c :: .inLoop c :: t) (iP hx (iP hx HV))) rfl rfl
   |exit id=>
    cases he:exitTo id t with
    |none=>
     refine .inl ⟨.stuck "exit, goto: no such block or label" ((Fr fn tmps (.code (.exit id) :: t) .run).pos P),lw,#[],?_⟩;show(exitTo id t).elim _ _=_;rw[he];rfl
    |some t'=>
     refine gI hw (BW t' (xG HV he)) ?_ ?_
     ·show(exitTo id t).elim _ _=_;rw[he];rfl
     ·show(exitTo id (t ++ kk)).elim _ _=_;rw[xH he];rfl
   |region id ops draw=>
    cases draw with
    |false=>exact gI hw (BW (.inRegion ops (List.range ops.size) :: t) (iP hx HV)) rfl rfl
    |true=>
     have h0:lw.tape lw.drawn=w.tape w.drawn:=ht 0;refine .inr (.inr (.inr ⟨_,_,_,_,_,_,_,_,ρ,rfl,?_,BW (.inRegion ops (Region.schedule (P.follows .mixedOrders) ops (lw.tape lw.drawn (.order fn id))) :: t) (iP hx HV),FL hw⟩));rw[h0];rfl
   |_=>cases hx
  |_=>cases hx
theorem Oa{ι:Type}{f f':ι→jO ak}(hf : ∀a,bY P F (At ρ (VR F ρ)) ρ (f a) (f' a))(l:Array ι):bY P F (At ρ (iV F ρ)) ρ (l.mapM f) (l.mapM f'):=by
 rw[o8,o8]
 have : ∀l:List ι,bY P F (At ρ (PJ F ρ)) ρ (l.mapM f) (l.mapM f'):=by
  intro l;rw[←List.mapM'_eq_mapM,←List.mapM'_eq_mapM]
  induction l with
  |nil=>exact .dv .nil
  |cons a l ih=>exact(hf a).dN fun _ _ h1=>ih.dN fun _ _ h2=>.dv (.cons h1 h2)
 exact(this l.toList).dN fun _ _ h=>.dv h.row
theorem Jw{v v':ak}(h:VR F ρ v v'):bY P F (At ρ (AR ρ)) ρ (asAddr v) (asAddr v'):=by
 cases h<;>first|exact bj|exact gJ (e:=.nilDeref)|exact .dv ‹_›
theorem GR{tmps bA:Array ak}(ha:iV F ρ tmps bA)(fn:Func):bY P F (At ρ (VR F ρ)) ρ (results fn tmps) (results fn bA):=by
 unfold results;refine(Oa (fun r=>?_) fn.results).dN fun vs vs' Va=>?_
 ·cases r with
  |tmp t=>exact .dv (ha.getD tH t)
  |cell a t=>exact(Jw (ha.getD tH a)).dN fun x y h=>yi h
 ·have hs:=Va.size
  by_cases h1:vs.size=1
  ·have h2:vs'.size=1:=by omega
   simp only[h1,h2,dif_pos];exact .dv (Va.at_ 0 _ _ (aR (by omega)) (aR (by omega)))
  ·have h2 : ¬vs'.size=1:=by omega
   simp only[h1,h2,dif_neg,not_false_eq_true];exact .dv Va.tuple
theorem M6(h0:WR F P.globals.size B ρ lw w){fr fr':bP}{l l':List bP}(h:SR P F ρ k kd cs fr l fr' l'){v v':ak}{jX w1:ar}{evs:Array gy}{ρ1:Rn}
  (hv:VR F ρ1 v v') (hw:mP F P.globals.size B ρ lw w ρ1 jX w1 evs) (es:Array gy) :
  GD P F P.globals.size B ρ k kd cs lw w (AX es (ud P true fr l none v jX)) (AX evs (ud P main fr' l' none v' w1)):=by
 cases h with
 |base h hi=>
  refine .inl ?_;unfold ud;dsimp only;rw[h.kinds.1,hi];exact⟨_,_,_,rfl⟩
 |@up _ _ c c' r r' h ZX aaf hr=>
  unfold ud;dsimp only;rw[h.kinds.1,h.kinds.2];have hr':=hr.mono hw.le;have LQ:=hr'.top;refine .inr (.inr (.inr ⟨_,_,_,_,_,_,_,_,ρ1,rfl,rfl,hr'.set' (Ah _ _) ?_,hw.more fun e he=>hw.evs e (by simpa using he)⟩));refine ?_;generalize (if r=[] then k else[])=kk at LQ ⊢;generalize (if r=[] then kd else CallKind.normal)=I0 at LQ ⊢;cases LQ with
  |ret _=>cases aaf
  |@run fn tmps bA todo ha cZ=>
   cases todo with
   |nil=>exact absurd rfl ZX
   |cons x t=>
    cases x with
    |inRegion ops is=>
     cases is with
     |nil=>exact .run (todo:=.inRegion ops [] :: t) ha cZ
     |cons i rest=>exact CO ha cZ hv
    |code c=>exact .run (todo:=.code c :: t) ha cZ
    |inBlock id=>exact .run (todo:=.inBlock id :: t) ha cZ
    |inLoop c=>exact .run (todo:=.inLoop c :: t) ha cZ
    |_=>exact absurd (lU cZ).1 (by simp[iX])
theorem Tr(hw:WR F P.globals.size B ρ lw w)(ht:vF lw w)(hG:P.globals.size≤lw.heap.size)(Vy:P.globals.size≤w.heap.size)
  {fn:eD} {tmps bA:Array ak} {todo MW:List oZ} {l l':List bP} {kk:jL} (h:SR P F ρ k kd cs (Fr fn tmps todo .returning) l (js fn bA MW .returning kk) l') (ha:iV F ρ tmps bA) :
  GD P F P.globals.size B ρ k kd cs lw w (lX P true (Fr fn tmps todo .returning) l none lw) (lX P main (js fn bA MW .returning kk) l' none w):=by
 unfold lX;dsimp only[Fr,js];cases hf:P.funcs[fn]? with
 |none=>
  have:=M6 (main:=main) hw h (ha.getD tH 0) (.refl hw) #[];have e : ∀s:GStep,AX #[] s=s:=fun s=>by cases s<;>simp[AX]
  rw[e,e] at this;exact this
 |some f=>
  rcases(GR (P:=P) ha f).runT hw ht hG Vy #[] #[] with⟨a,jX,le,b,w1,evs,ρ1,h1,h2,h3,h4⟩|⟨e,jX,le,h1,h2⟩
  ·simp only[fJ] at h2;simp only[h1,h2];obtain⟨rfl,hv⟩:=h3;exact M6 hw h hv (h4.more fun e he=>h4.evs e (mem_seen he)) _
  ·simp only[h1];cases e<;>exact .inl ⟨_,_,_,rfl⟩
theorem Y6(hF:tq P F)(hw:WR F P.globals.size B ρ lw w)(ht:vF lw w)(hG:P.globals.size≤lw.heap.size)(Vy:P.globals.size≤w.heap.size)
  {fr fr':bP} {l l':List bP} (h:SR P F ρ k kd cs fr l fr' l') (hk:l=[]→fr.mode=.run→fr.todo=[]→k=[]) (hE:kd≠.early) :
  GD P F P.globals.size B ρ k kd cs lw w (fK P true (G fr l) lw) (fK P main (G fr' l') w):=by
 have LQ:=h.top;generalize tv:(if l=[] then k else[])=kk at LQ;generalize Cc:(if l=[] then kd else CallKind.normal)=I0 at LQ;cases LQ with
 |run ha cZ=>
  subst tv;subst Cc;exact aaT (main:=main) hF hw ht hG Vy h hE ha cZ fun h1 h2=>hk h1 rfl h2
 |ret ha=>exact Tr (main:=main) hw ht hG Vy h ha
end
structure iD(K:Nat→Prop)(w w1:ar):Prop where
 grow:w.heap.size≤w1.heap.size
 keep : ∀c,K c→w1.heap[c]?=w.heap[c]?
theorem iD.refl(K:Nat→Prop)(w:ar):iD K w w:=⟨ay _,fun _ _=>rfl⟩
theorem iD.trans{K:Nat→Prop}{a b c:ar}(h:iD K a b)(h':iD K b c):iD K a c:=⟨bq h.grow h'.grow,fun x hx=>(h'.keep x hx).trans (h.keep x hx)⟩
def own(O:Nat→Prop)(w w':ar):Nat→Prop:=fun c=>O c∨(w.heap.size≤c∧c<w'.heap.size)
structure IW(S O:Nat→Prop)(w w':ar)(es:Array gy):Prop where
 grow:w.heap.size≤w'.heap.size
 keep : ∀c,c<w.heap.size→¬O c→w'.heap[c]?=w.heap[c]?
 tape:w'.tape=w.tape
 drawn:w.drawn≤w'.drawn
 os:w'.os=w.os
 out:w'.output=w.output
 evs : ∀e∈es,MT (fun c=>S c∨own O w w' c) (own O w w') e
inductive Walk(P:aN)(main:Bool)(S:Nat→Prop)(Stop:(Nat→Prop)→aF→ar→Prop):(Nat→Prop)→aF→ar→Prop
 |stop {O:Nat→Prop} {g:aF} {w:ar}:(∀w1,iD (fun c=>S c∨O c) w w1→Stop O g w1)→Walk P main S Stop O g w
 |step {O:Nat→Prop} {g:aF} {w:ar}:g.status=.running→g.dying=none→
   (∀w1,iD (fun c=>S c∨O c) w w1→∃g2 w2 es,fK P main g w1=.go g2 w2 es∧IW S O w1 w2 es∧g2.status=.running∧g2.dying=none)→
   (∀w1,iD (fun c=>S c∨O c) w w1→∀g2 w2 es,fK P main g w1=.go g2 w2 es→Walk P main S Stop (own O w1 w2) g2 w2)→Walk P main S Stop O g w
section
variable{P:aN}{main:Bool}{S:Nat→Prop}{Stop VI:(Nat→Prop)→aF→ar→Prop}{O:Nat→Prop}{g:aF}{w:ar}
theorem Walk.rely(h:Walk P main S Stop O g w){w1:ar}(hr:iD (fun c=>S c∨O c) w w1):Walk P main S Stop O g w1:=by
 cases h with
 |stop h=>exact .stop fun w2 h2=>h w2 (hr.trans h2)
 |step a b c d=>exact .step a b (fun w2 h2=>c w2 (hr.trans h2)) fun w2 h2=>d w2 (hr.trans h2)
theorem Walk.bind(h:Walk P main S Stop O g w)(k : ∀O g w,Stop O g w→Walk P main S VI O g w):Walk P main S VI O g w:=by
 induction h with
 |@stop O g w h=>exact k _ _ _ (h w (.refl _ _))
 |step a b c d ih=>exact .step a b c ih
theorem Walk.mk{r:g.status=.running}{d:g.dying=none}(h : ∀w1,iD (fun c=>S c∨O c) w w1→∃g2 w2 es,fK P main g w1=.go g2 w2 es∧IW S O w1 w2 es∧g2.status=.running∧g2.dying=none∧Walk P main S Stop (own O w1 w2) g2 w2):Walk P main S Stop O g w:=by
 refine .step r d (fun w1 h1=>?_) fun w1 h1 g2 w2 es e=>?_
 ·obtain⟨g2,w2,es,e,hg,hr,hd,_⟩:=h w1 h1;exact⟨g2,w2,es,e,hg,hr,hd⟩
 ·obtain⟨g3,w3,es3,e3,_,_,_,hw⟩:=h w1 h1;rw[e] at e3;injection e3 with e4 e5 e6
  rw[e4,e5];exact hw
end
section
variable{P:aN}{F:Nat→Bool}{B:Nat→Prop}{ρ:Rn}{k:List oZ}{kd:jL}{cs:List bP}{lw w:ar}{main:Bool}{Stop:aF→ar→Prop}
theorem yF{g g1 g':aF}{jX eM:ar}{es:Array gy}(h:ry P g lw g' eM)(e:fK P true g lw=.go g1 jX es):g'=g1∧eM=jX:=by
 obtain⟨hr,_,⟨ops,hs⟩,_⟩:=h;rw[stepT_solo hr,nC] at hs;have Mf:(#[g]:Array aF)[0]?=some g:=rfl;have e1:=runT_crowd_go (P:=P) (gs:=#[g]) (w:=lw) (sl:=none) (i:=0) Mf e;rw[e1] at hs;injection hs with hs1 _
 injection hs1 with hs3
 have:(#[g].map (woken P g g1 jX)).setIfInBounds 0 g1 = #[g1]:=by simp
 rw[this,←nC] at hs3;obtain⟨h1,h2⟩:=oH hs3;exact⟨h1.symm,h2.symm⟩
theorem vg{g g':aF}{jX eM:ar}{o:Outcome}{es:Array gy}(h:ry P g lw g' eM)(e:fK P true g lw=.ended o jX es):False:=by
 obtain⟨hr,_,⟨ops,hs⟩,_⟩:=h;rw[stepT_solo hr,nC] at hs;have Mf:(#[g]:Array aF)[0]?=some g:=rfl;have e1:=runT_many_ended (P:=P) (gs:=#[g]) (w:=lw) (sl:=none) (i:=0) Mf e;rw[e1] at hs;injection hs with hs1 _
 cases hs1
theorem LK{g g1 g':aF}{jX eM:ar}{ch v:ak}{es:Array gy}(h:ry P g lw g' eM)(e:fK P true g lw=.comm g1 #[{ chan:=ch,send:=some v,zero:=.tuple #[] }] true .send jX es)
  (hn : ∀(b:Nat) (o:Obj),jX.heap[b]?=some o→o.isChan=false):False:=by
 obtain⟨hr,_,⟨ops,hs⟩,hr',_⟩:=h;rw[stepT_solo hr,nC] at hs;have Mf:(#[g]:Array aF)[0]?=some g:=rfl;have e1:=runT_crowd_comm (P:=P) (gs:=#[g]) (w:=lw) (sl:=none) (i:=0) Mf e;rw[e1] at hs;injection hs with hs1 _
 have lx : ∀c:mU,(c.chan=.chan none∨(match c.chan with
   |.chan none=>false
   |.chan (some r)=>!(jX.heap[r]? matches some (.chan ..))
   |_=>true)=true):=by
  intro c;cases hc:c.chan with
  |chan r=>
   cases r with
   |none=>exact .inl rfl
   |some r=>
    right;dsimp only;cases hh:jX.heap[r]? with
    |none=>rfl
    |some o=>
     have:=hn r o hh;cases o<;>first|rfl|cases this
  |_=>exact .inr rfl
 unfold communicate at hs1;rcases lx { chan:=ch,send:=some v,zero:=.tuple #[] } with hb|hb
 ·dsimp only at hb;subst hb;have hw : ∀gs:Array aF,ways jX gs { chan:=.chan none,send:=some v,zero:=.tuple #[] }=[]:=fun gs=>rfl;simp[hw,waitingAt,timerAhead] at hs1;have h1:=congrArg Machine.gs hs1;have h2:(#[g].setIfInBounds 0 { g1 with status:=.blocked,offers:=some (#[{ chan:=.chan none,send:=some v,zero:=.tuple #[] }],.send) }:Array aF) = #[g']:=by simpa [solo,crowd] using h1
  have h3:g'={ g1 with status:=.blocked,offers:=some (#[{ chan:=.chan none,send:=some v,zero:=.tuple #[] }],.send) }:=by
   have:=congrArg (fun a:Array aF=>a[0]?) h2;simpa using this.symm
  rw[h3] at hr';cases hr'
 ·dsimp only at hb;simp at hs1;rw[if_pos] at hs1
  ·cases hs1
  ·exact hb
theorem P8(hS : ∀g W,Stop g W→¬MN g){g:aF}{W:ar}(h:Bar P Stop g W) : ¬MN g:=by
 induction h with
 |stop h=>exact hS _ _ h
 |@step g W live down ih=>
  intro hs;obtain⟨g',W',hl⟩:=live W.tape fun _ _=>rfl;rcases N1 (P:=P) (lw:=cX W W.tape W.drawn) hs hl.2.1 hl.1 with⟨o,w1,es,e⟩|⟨g1,w1,es,e,hs1⟩
  ·exact vg hl e
  ·obtain⟨rfl,rfl⟩:=yF hl e;exact ih W.tape (fun _ _=>rfl) _ _ hl hs1
theorem PH{fn:eD}{tmps:Array ak}{todo:List oZ}(hi:P.inits.idxOf? fn=none) : ∃o w1 es,fK P true (G (Fr fn tmps todo .returning) []) lw=.ended o w1 es:=by
 have e:fK P true (G (Fr fn tmps todo .returning) []) lw=lX P true (Fr fn tmps todo .returning) [] none lw:=rfl;rw[e]
 have hd : ∀v w,ud P true (Fr fn tmps todo .returning) [] none v w=.ended (.done v) w:=by
  intro v w;unfold ud;simp only[Fr,js,hi];rfl
 unfold lX;dsimp only[Fr,js];cases P.funcs[fn]? with
 |none=>exact⟨_,_,_,hd _ _⟩
 |some f=>
  dsimp only;generalize (results f tmps).runT P lw #[]=r;obtain⟨r,es⟩:=r;cases r with
  |ok v w=>
   have:=hd v w;simp only[Fr,js] at this;simp only[this];exact⟨_,_,_,rfl⟩
  |halt e w=>cases e<;>exact⟨_,_,_,rfl⟩
theorem WR.rely(h:WR F P.globals.size B ρ lw w){w1:ar}(hr:iD (fun c=>(∃b,B b∧ρ b=some c)∨ρ.owns B c) w w1):WR F P.globals.size B ρ lw w1:=by
 refine⟨h.inj,h.low,h.base,fun b c hb=>?_,h.Hh⟩;obtain⟨o,o',h1,h2,h3,h4⟩:=h.at_ b c hb;refine⟨o,o',h1,?_,h3,h4⟩;rw[hr.keep c ?_,h2];rcases Classical.em (B b) with hl|hg
 ·exact .inl ⟨b,hl,hb⟩
 ·exact .inr ⟨b,hg,hb⟩
theorem mP.owns{ρ1:Rn}{jX w1:ar}{es:Array gy}(h0:WR F P.globals.size B ρ lw w)(h:mP F P.globals.size B ρ lw w ρ1 jX w1 es):ρ1.owns B=own (ρ.owns B) w w1:=by
 funext c
 refine propext ⟨?_,?_⟩
 ·rintro⟨b,hb,he⟩;rcases h.new b c he with h1|⟨_,h2⟩
  ·exact .inl ⟨b,hb,h1⟩
  ·obtain⟨_,_,_,hc,_⟩:=h.wr.at_ b c he;exact .inr ⟨h2,eY hc⟩
 ·rintro(⟨b,hb,he⟩|⟨h1,h2⟩)
  ·exact⟨b,hb,h.le _ _ he⟩
  ·obtain⟨b,he⟩:=h.fresh c h1 h2;rcases h.new b c he with h3|⟨h3,_⟩
   ·obtain⟨_,_,_,hc,_⟩:=h0.at_ b c h3;have:=eY hc;omega
   ·exact⟨b,fun hb=>by have:=h0.base b hb;omega,he⟩
theorem mP.shared{ρ1:Rn}{jX w1:ar}{es:Array gy}(h0:WR F P.globals.size B ρ lw w)(h:mP F P.globals.size B ρ lw w ρ1 jX w1 es)(c:Nat):(∃b,B b∧ρ1 b=some c)↔∃b,B b∧ρ b=some c:=by
 constructor
 ·rintro⟨b,hb,he⟩;rcases h.new b c he with h1|⟨h1,_⟩
  ·exact⟨b,hb,h1⟩
  ·have:=h0.base b hb;omega
 ·rintro⟨b,hb,he⟩;exact⟨b,hb,h.le _ _ he⟩
structure abx(P:aN)(F:Nat→Bool)(B:Nat→Prop)(k:List oZ)(kd:jL)(cs:List bP)(Stop:aF→ar→Prop)(YA:ar)(ρ0:Rn)(O:Nat→Prop)(g':aF)(w':ar)(fr:bP)(l:List bP)(lw:ar)(ρ:Rn)(fr':bP)(l':List bP):Prop where
 g:g'=G fr' l'
 stop:Stop (G fr l) lw
 sr:SR P F ρ k kd cs fr l fr' l'
 wr:WR F P.globals.size B ρ lw w'
 tV:P.globals.size≤w'.heap.size
 own:O=ρ.owns B
 shared : ∀c,(∃b,B b∧ρ b=some c)↔∃b,B b∧ρ0 b=some c
 le:Rn.le ρ0 ρ
 grow:YA.heap.size≤lw.heap.size
 ok:dD lw
theorem Jg(T:Quiet P)(hF:tq P F)(hS : ∀g W,Stop g W→¬MN g)(hE:kd≠.early)(hk:k=[]∨∀g W,Stop g W→g.frame.mode=.run){S:Nat→Prop} :
  ∀ {g:aF} {lw:ar},Bar P Stop g lw→zK g→dD lw→P.globals.size≤lw.heap.size→∀ {fr:bP} {l:List bP} {ρ:Rn} {fr':bP} {l':List bP} {w:ar},g=G fr l→SR P F ρ k kd cs fr l fr' l'→WR F P.globals.size B ρ lw w→P.globals.size≤w.heap.size→
   (∀c,S c↔∃b,B b∧ρ b=some c)→
   Walk P main S (fun O g' w'=>∃Ff l1 jX ρ1 wA TS,abx P F B k kd cs Stop lw ρ O g' w' Ff l1 jX ρ1 wA TS) (ρ.owns B) (G fr' l') w:=by
 intro g lw h
 induction h with
 |@stop g lw h=>
  rintro Uf cZ hG fr l ρ fr' l' w rfl WN hw Bv Uq;have eK:(fun c=>S c∨ρ.owns B c)=fun c=>(∃b,B b∧ρ b=some c)∨ρ.owns B c:=by funext c;rw[Uq c]
  refine .stop fun w1 hr=>?_;rw[eK] at hr;exact⟨fr,l,lw,ρ,fr',l',rfl,h,WN,hw.rely hr,bq Bv hr.grow,rfl,fun c=>Iff.rfl,Rn.le_refl _,ay _,cZ⟩
 |@step g lw live down ih=>
  rintro Uf cZ hG fr l ρ fr' l' w rfl WN hw Bv Uq;have eK:(fun c=>S c∨ρ.owns B c)=fun c=>(∃b,B b∧ρ b=some c)∨ρ.owns B c:=by funext c;rw[Uq c]
  refine Walk.mk (r:=rfl) (d:=rfl) fun w1 hr=>?_;have hr0:=hr;rw[eK] at hr;have hw1:=hw.rely hr;have aar:=bq Bv hr.grow;let τ:Nat→Question→Nat:=fun p=>if p<lw.drawn then lw.tape p else w1.tape (w1.drawn+(p - lw.drawn))
  have L8:Ext lw τ:=fun i hi=>by simp only[τ,if_pos hi]
  have ht:vF (cX lw τ lw.drawn) w1:=fun i=>by simp only[yz,qg,τ,if_neg (show ¬lw.drawn+i<lw.drawn by omega),rS]
  obtain⟨g1,jX,hl⟩:=live τ L8;obtain⟨aaq,Ca,_⟩:=qZ T Uf (lw:=cX lw τ lw.drawn) cZ hl
  have xC:l=[]→fr.mode=.run→fr.todo=[]→k=[]:=by
   rintro rfl hm htd;rcases hk with hk|hk
   ·exact hk
   ·exfalso;cases WN with
    |base hfr hi=>
     cases hfr with
     |ret _=>cases hm
     |@run fn tmps bA todo ha cZ=>
      dsimp only[Fr,js] at htd;subst htd;have e:fK P true (G (Fr fn tmps [] .run) []) (cX lw τ lw.drawn)=.go (G (Fr fn tmps [] .returning) []) (cX lw τ lw.drawn) #[]:=rfl;obtain⟨rfl,rfl⟩:=yF hl e;have adX:=down τ L8 _ _ hl;cases adX with
      |stop h=>exact absurd (hk _ _ h) (by simp[G,Fr,js])
      |step ZO _=>
       obtain⟨g2,w2,hl2⟩:=ZO _ fun _ _=>rfl;obtain⟨o,w3,es,e3⟩:=PH (P:=P) (lw:=cX (cX lw τ lw.drawn) (cX lw τ lw.drawn).tape (cX lw τ lw.drawn).drawn) (fn:=fn) (tmps:=tmps) (todo:=[]) hi;exact vg hl2 e3
  have WH:WR F P.globals.size B ρ (cX lw τ lw.drawn) w1:=hw1.tape τ w1.tape lw.drawn w1.drawn;rcases Y6 (main:=main) hF WH ht hG aar WN xC hE with⟨o,Wy,es,e⟩|⟨g2,Wy,es,e,hs⟩|⟨g2,ch,v,Wy,es,e,hn⟩|⟨Ff,l1,Wy,es,wA,TS,w2,evs,ρ1,e,e',acY,q9⟩
  ·exact(vg hl e).elim
  ·obtain⟨rfl,rfl⟩:=yF hl e;exact absurd hs (P8 hS (down τ L8 _ _ hl))
  ·exact(LK hl e hn).elim
  ·obtain⟨rfl,rfl⟩:=yF hl e;have hown:=q9.owns WH;have Ve:=q9.shared WH;refine⟨_,_,_,e',⟨q9.grow,q9.keep,q9.tape,?_,q9.os,q9.out,fun x hx=>?_⟩,rfl,rfl,?_⟩
   ·obtain⟨k1,_,h2⟩:=q9.draw;omega
   ·refine(q9.evs x hx).mono (fun c hc=>?_) fun c hc=>by rw[hown] at hc;exact hc
    obtain⟨b,hb⟩:=hc;rcases Classical.em (B b) with hlt|hge
    ·exact .inl ((Uq c).2 ((Ve c).1 ⟨b,hlt,hb⟩))
    ·right;rw[←hown];exact⟨b,hge,hb⟩
   ·rw[←hown];refine(ih τ L8 _ _ hl aaq Ca (bq hG q9.F7) rfl acY q9.wr (bq aar q9.grow) fun c=>(Uq c).trans (Ve c).symm).bind fun O g' w' hE=>?_;obtain⟨a1,a2,a3,a4,a5,a6,hE⟩:=hE
    exact .stop fun w3 h3=>⟨a1,a2,a3,a4,a5,a6,⟨hE.g,hE.stop,hE.sr,hE.wr.rely (by
     have:(fun c=>S c∨O c)=fun c=>(∃b,B b∧a4 b=some c)∨a4.owns B c:=by
      funext c;rw[Uq c,hE.own,hE.shared c,Ve c]
     rwa [this] at h3),bq hE.tV h3.grow,hE.own,fun c=>(hE.shared c).trans (Ve c),Rn.le_trans q9.le hE.le,bq q9.F7 hE.grow,hE.ok⟩⟩
end
def ND(P:aN){α:Type}:jO α→Prop
 |.pure _=>True
 |.load _ _ k=>∀v,ND P (k v)
 |.program k=>ND P (k P)
 |.halt _=>True
 |_=>False
section
variable{P:aN}{α β:Type}
theorem ND.bind{s:jO α}{f:α→jO β}(h:ND P s)(hf : ∀a,ND P (f a)):ND P (s >>= f):=by
 show ND P (s.bind f)
 induction s with
 |pure a=>exact hf a
 |load m a k ih=>exact fun v=>ih v (h v)
 |program k ih=>exact ih P h
 |halt e=>trivial
 |_=>exact h.elim
theorem ND.run{s:jO α}(h:ND P s)(w:ar) : ∀(τ:Nat→Question→Nat) (d:Nat),s.run P (cX w τ d)=Zf (s.run P w) τ d:=by
 intro τ d
 induction s with
 |pure a=>rfl
 |load m a k ih=>
  simp only[Sem.run,oU];cases w.cell? a with
  |some v=>exact ih v (h v)
  |none=>
   simp only[vq];cases w.farLoad P a (m == .atomic) with
   |ok x=>exact ih _ (h _)
   |error e=>rfl
 |program k ih=>exact ih P h
 |halt e=>rfl
 |_=>exact h.elim
end
section
variable{P:aN}{F:Nat→Bool}{B:Nat→Prop}{ρ ρ1:Rn}{lw jX w w1:ar}{main:Bool}
structure Kn(P:aN)(F:Nat→Bool)(B:Nat→Prop)(S:Nat→Prop)(YA:ar)(ρ0:Rn)(O:Nat→Prop)(w':ar)(lw:ar)(ρ:Rn):Prop where
 wr:WR F P.globals.size B ρ lw w'
 tV:P.globals.size≤w'.heap.size
 own:O=ρ.owns B
 shared : ∀c,S c↔∃b,B b∧ρ b=some c
 le:Rn.le ρ0 ρ
 grow:YA.heap.size≤lw.heap.size
 ok:dD lw
theorem Kn.rely{S:Nat→Prop}{YA:ar}{ρ0:Rn}{O:Nat→Prop}{w' w2:ar}(h:Kn P F B S YA ρ0 O w' lw ρ)(hr:iD (fun c=>S c∨O c) w' w2):Kn P F B S YA ρ0 O w2 lw ρ:=
 ⟨h.wr.rely (by
  have e:(fun c=>S c∨O c)=fun c=>(∃b,B b∧ρ b=some c)∨ρ.owns B c:=by funext c;rw[h.shared c,h.own]
  rwa [e] at hr),bq h.tV hr.grow,h.own,h.shared,h.le,h.grow,h.ok⟩
theorem xh(T:Quiet P)(hF:tq P F)(hG:P.globals.size≤lw.heap.size){fn:eD}{kd:jL}(hE:kd≠.early)(hi:P.inits.idxOf? fn=none){c:Code}(hc:iq P F c=true)(hc':eb c=true){tmps bA:Array ak}(ha:iV F ρ tmps bA)
  (hw:WR F P.globals.size B ρ lw w) (Bv:P.globals.size≤w.heap.size) (cZ:dD lw) {Q:Act→ar→Prop} (hQ : ∀a W' τ d,Q a (cX W' τ d)→Q a W')
  (h : ∀τ d,c.wp P (fun e a W'=>e=.normal∧Q a W') ⟨tmps,[]⟩ (cX lw τ d)) {S:Nat→Prop} (Uq : ∀c,S c↔∃b,B b∧ρ b=some c) (k:List oZ) (cs:List bP) :
  Walk P main S (fun O g' w'=>∃lH jh jX ρ1,g'=G (js fn jh k .run kd) cs∧iV F ρ1 lH jh∧Q ⟨lH,[]⟩ jX∧Kn P F B S lw ρ O w' jX ρ1) (ρ.owns B) (G (js fn bA (.code c :: k) .run kd) cs) w:=by
 have hb:Bar P (fun g W=>∃a1,g=G ((Fr fn #[] [] .run).at a1 []) []∧Q a1 W) (G (Fr fn tmps [.code c] .run) []) lw:=by
  refine BR T ?_ ?_ ⟨⟨by simpa [G,Fr,js,iY] using hc',rfl⟩,by simp[G],.inl rfl⟩ cZ rfl rfl fun τ _=>?_
  ·rintro g W τ d ⟨a1,h1,h2⟩;exact⟨a1,h1,hQ _ _ _ _ h2⟩
  ·rintro g W ⟨a1,rfl,_⟩;exact⟨rfl,rfl⟩
  ·obtain⟨e,a',w',⟨rfl,hq⟩,n,hn⟩:=h τ lw.drawn (Fr fn #[] [] .run) [] [];exact⟨n,G ((Fr fn #[] [] .run).at a' []) [],w',hn,a',rfl,hq⟩
 have hns : ∀g W,(∃a1,g=G ((Fr fn #[] [] .run).at a1 []) []∧Q a1 W)→¬MN g:=by
  rintro g W ⟨a1,rfl,_⟩ (hs|hs|⟨ch,hs,_⟩)
  ·exact hs rfl
  ·exact hs rfl
  ·cases hs
 have acZ:SR P F ρ k kd cs (Fr fn tmps [.code c] .run) [] (js fn bA (.code c :: k) .run kd) cs:=.base (.run (todo:=[.code c]) ha (by simpa [iX] using hc)) hi;refine(Jg (main:=main) T hF hns hE (.inr ?_) hb ⟨⟨by simpa [G,Fr,js,iY] using hc',rfl⟩,by simp[G],.inl rfl⟩ cZ hG rfl acZ hw Bv Uq).bind fun O g' w' hE=>?_
 ·rintro g W ⟨a1,rfl,_⟩;rfl
 obtain⟨Ff,l1,jX,ρ1,wA,TS,hE⟩:=hE;obtain⟨a1,hg,hq⟩:=hE.stop
 have hfl:Ff=(Fr fn #[] [] .run).at a1 []∧l1=[]:=by
  have h1:(G Ff l1).frame=(G ((Fr fn #[] [] .run).at a1 []) []).frame:=by rw[hg]
  have h2:(G Ff l1).callers=(G ((Fr fn #[] [] .run).at a1 []) []).callers:=by rw[hg]
  exact⟨h1,h2⟩
 obtain⟨h1,rfl⟩:=hfl;have adx:Kn P F B S lw ρ O w' jX ρ1:=⟨hE.wr,hE.tV,hE.own,fun c=>(Uq c).trans (hE.shared c).symm,hE.le,hE.grow,hE.ok⟩
 have WN:=hE.sr;have DY:=hE.g;generalize adL:([]:List bP)=l1 at WN;cases WN with
 |up _ _ _ _=>cases adL
 |base hfr hin=>
  cases hfr with
  |@ret fn1 lH jh U1 acp PW=>cases congrArg Frame.mode h1
  |@run fn1 lH jh U1 PW YE=>
   have e1:fn1=fn:=congrArg Frame.fn h1;have e2:lH=a1.tmps:=congrArg Frame.tmps h1;have e3:U1=[]:=congrArg Frame.todo h1;have e4:([]:List Deferred)=a1.defers:=congrArg Frame.defers h1;subst e1;subst e3;refine .stop fun w2 hr=>⟨lH,jh,jX,ρ1,DY,PW,?_,adx.rely hr⟩
   rw[e2,e4];exact hq
end
def B6:Loc→Option Nat
 |.cell a=>some a.block
 |.obj r=>some r
 |_=>none
structure PT(A:Nat→Prop)(S O:Nat→Nat→Prop)(B:Nat)(t:Trace):Prop where
 clean : ∀said,¬Race said t
 known : ∀i a c,touchAt t i=some a→B6 a.loc=some c→Knows t 0 i∨∃g,A g∧t.g? i=some g∧(O g c∨(a.write=false∧S g c))
 wk : ∀g,A g→∀i a c,touchAt t i=some a→B6 a.loc=some c→S g c→a.write=true→Knows t g i
 ow : ∀g,A g→∀i a c,touchAt t i=some a→B6 a.loc=some c→O g c→t.g? i=some g
 over : ∀i g,t.g? i=some g→g≠0→t.counts i→(∃j,t.g? j=some 0∧HappensBefore t i j)∨A g
 hears:Deaf t 0=0
 tT : ∀g,A g→Deaf t g=0
 seen : ∀op∈t,op.act.low B
 pos : ∀g,A g→g≠0
section
variable{A A':Nat→Prop}{S O S' O':Nat→Nat→Prop}{B B':Nat}{t u:Trace}
theorem DL{l:Loc}:l.isMemory=true↔∃c,B6 l=some c:=by
 cases l<;>simp[Loc.isMemory,B6]
theorem JM{l:Loc}{c:Nat}(h:B6 l=some c)(hl:l.low B):c<B:=by
 cases l<;>simp only[B6,lF,reduceCtorEq] at h
 ·subst h;exact hl
 ·subst h;exact hl
theorem NZ{op:MemOp}{x:Touch}{c:Nat}(h:op.act.touch?=some x)(hc:B6 x.loc=some c)(hl:op.act.low B):c<B:=by
 obtain⟨g,fn,pos,act⟩:=op;cases act with
 |access e=>
  simp only[MemAct.touch?,lF] at h;subst h;exact JM hc hl
 |mark m=>
  cases m<;>simp only[MemAct.touch?,lF,reduceCtorEq] at h<;>(subst h;exact JM hc hl)
 |_=>cases h
theorem PT.TI(h:KR B t):PT (fun _=>False) S O B t:=by
 refine⟨h.clean,fun i a c ha hc=>.inl ?_,fun g hg=>hg.elim,fun g hg=>hg.elim,fun i g h1 h2 h3=>.inl (h.over i g h1 h2 h3),h.hears,fun g hg=>hg.elim,h.seen,fun g hg=>hg.elim⟩;rcases h.known i a ha (DL.2 ⟨c,hc⟩) with hk|⟨hs,_⟩
 ·exact hk
 ·exact hs.elim
theorem PT.past(h:PT A S O B t)(hA : ∀g,¬A g):KR B t:=by
 refine⟨h.clean,fun i a ha hm=>.inl ?_,fun i g h1 h2 h3=>(h.over i g h1 h2 h3).resolve_right (hA g),h.hears,h.seen⟩;obtain⟨c,hc⟩:=DL.1 hm;rcases h.known i a c ha hc with hk|⟨g,hg,_⟩
 ·exact hk
 ·exact(hA g hg).elim
theorem PT.mono(h:PT A S O B t)(hB:B≤B'):PT A S O B' t:=⟨h.clean,h.known,h.wk,h.ow,h.over,h.hears,h.tT,fun op hop=>MemAct.low_mono hB (h.seen op hop),h.pos⟩
theorem PT.lt(h:PT A S O B t){i:Nat}{a:Touch}{c:Nat}(ha:touchAt t i=some a)(hc:B6 a.loc=some c):c<B:=by
 obtain⟨x,hx,wM⟩:=touch_of ha;exact NZ wM hc (h.seen x (mem_of_getElem? hx))
theorem g?_app{i:Nat}{g:Nat}(h:t.g? i=some g):(t ++ u).g? i=some g:=by
 obtain⟨x,hx,hg⟩:=eW.1 h;rw[g?_old (lt_size_of_getElem? hx)];exact h
def IU(R W:Nat→Prop)(op:MemOp):Prop:=∀x,op.act.touch?=some x→x.kind=.plain∧∃c,B6 x.loc=some c∧R c∧(x.write=true→W c)
def od(op:MemOp):Prop:=op.act≠.mark .disable∧op.act≠.mark .enable
theorem iE(t:Trace)(g:Nat)(u:Trace)(hu : ∀op∈u,od op):Deaf (t ++ u) g=Deaf t g:=by
 have key : ∀(l:List MemOp) (d:Nat),(∀op∈l,od op)→l.foldl (deafStep g) d=d:=by
  intro l
  induction l with
  |nil=>intro d _;rfl
  |cons y l ih=>
   intro d hl;have hy:=hl y (by simp);rw[List.foldl_cons]
   have:deafStep g d y=d:=by
    unfold deafStep;split
    ·rename_i e;exact absurd e hy.1
    ·rename_i e;exact absurd e hy.2
    ·rfl
   rw[this];exact ih d fun op hop=>hl op (by simp[hop])
 have:=Deaf_append t g u.toList;simp only[Array.toArray_toList] at this;rw[this];exact key _ _ fun op hop=>hu op (by simpa using hop)
theorem ri{i:Nat}(hi:i<t.size):(t ++ u).counts i→t.counts i:=by
 rintro⟨x,hx,hm,hk⟩;refine⟨x,?_,hm,?_⟩
 ·rw[act?_old hi] at hx;exact hx
 ·exact hk.imp id fun h=>(heard_old hi).1 h
theorem ze{i:Nat}(h:t.counts i) : ∃x c,touchAt t i=some x∧B6 x.loc=some c:=by
 obtain⟨x,hx,hm,_⟩:=h;obtain⟨c,hc⟩:=DL.1 hm;exact⟨x,c,hx,hc⟩
theorem PT.app0(h:PT A S O B t){R W:Nat→Prop}(hB:B≤B')(hu : ∀op∈u,op.g=0∧IU R W op∧od op∧op.act.low B')(hR : ∀g,A g→∀c,R c→¬O g c)(hW : ∀g,A g→∀c,W c→¬S g c):PT A S O B' (t ++ u):=by
 refine⟨fun said=>noRace_append (h.clean said) (fun op hop=>(hu op hop).1) fun i a ha op hop b hb hc=>?_,fun i a c ha hc=>?_,fun g hg i a c ha hc hs hw=>?_,fun g hg i a c ha hc ho=>?_,fun i g h1 h2 h3=>?_,?_,fun g hg=>?_,?_,h.pos⟩
 ·obtain⟨_,c,Vw,hr,hwr⟩:=(hu op hop).2.1 b hb;rcases h.known i a c ha (hc.1▸Vw) with hk|⟨g,hg,_,JY⟩
  ·exact hk
  ·rcases JY with ho|⟨hw,hs⟩
   ·exact absurd ho (hR g hg c hr)
   ·have uC:b.write=true:=by
     rcases hc.2.2.1 with h1|h1
     ·rw[hw] at h1;cases h1
     ·exact h1
    exact absurd hs (hW g hg c (hwr uC))
 ·obtain⟨x,hx,wM⟩:=touch_of ha;rcases iu hx with⟨hi,hx'⟩|⟨_,Gc⟩
  ·rcases h.known i a c (by rw[touchAt_of hx'];exact wM) hc with hk|⟨g,hg,LZ,JY⟩
   ·exact .inl (hk.app u)
   ·exact .inr ⟨g,hg,g?_app LZ,JY⟩
  ·have:=knows_own hx;rw[(hu x Gc).1] at this;exact .inl this
 ·obtain⟨x,hx,wM⟩:=touch_of ha;rcases iu hx with⟨hi,hx'⟩|⟨_,Gc⟩
  ·exact(h.wk g hg i a c (by rw[touchAt_of hx'];exact wM) hc hs hw).app u
  ·obtain⟨_,c',hc',_,hwr⟩:=(hu x Gc).2.1 a wM;rw[hc] at hc';cases hc';exact absurd hs (hW g hg c (hwr hw))
 ·obtain⟨x,hx,wM⟩:=touch_of ha;rcases iu hx with⟨hi,hx'⟩|⟨_,Gc⟩
  ·exact g?_app (h.ow g hg i a c (by rw[touchAt_of hx'];exact wM) hc ho)
  ·obtain⟨_,c',hc',hr,_⟩:=(hu x Gc).2.1 a wM;rw[hc] at hc';cases hc';exact absurd ho (hR g hg c hr)
 ·obtain⟨x,hx,Hy⟩:=eW.1 h1;rcases iu hx with⟨hi,hx'⟩|⟨_,Gc⟩
  ·rcases h.over i g (by rw[←g?_old (u:=u) hi];exact h1) h2 (ri hi h3) with⟨j,hj,hb⟩|hA
   ·exact .inl ⟨j,g?_app hj,hb_app u hb⟩
   ·exact .inr hA
  ·rw[(hu x Gc).1] at Hy;exact absurd Hy.symm h2
 ·rw[iE _ _ _ fun op hop=>(hu op hop).2.2.1];exact h.hears
 ·rw[iE _ _ _ fun op hop=>(hu op hop).2.2.1];exact h.tT g hg
 ·exact seen_app (fun op hop=>MemAct.low_mono hB (h.seen op hop)) fun op hop=>(hu op hop).2.2.2
theorem PT.appW(h:PT A S O B t){k:Nat}(hk:A k){W:Nat→Prop}(hB:B≤B')(hu : ∀op∈u,op.g=k∧IU (fun c=>S k c∨W c) W op∧od op∧op.act.low B')
  (hW : ∀c,W c→O k c∨B≤c) (hO : ∀c,O k c→W c) (tv : ∀c,W c→¬S k c) (hg : ∀g,A g→g≠k→∀c,W c→¬S g c∧¬O g c) (hs : ∀g,A g→g≠k→∀c,S k c→¬O g c) :
  PT A S (fun g=>if g=k then W else O g) B' (t ++ u):=by
 refine⟨fun said=>noRace_append (h.clean said) (fun op hop=>(hu op hop).1) fun i a ha op hop b hb hc=>?_,fun i a c ha hc=>?_,fun g L6 i a c ha hc hs' hw=>?_,fun g L6 i a c ha hc ho=>?_,fun i g h1 h2 h3=>?_,?_,fun g L6=>?_,?_,h.pos⟩
 ·obtain⟨_,c,Vw,hr,hwr⟩:=(hu op hop).2.1 b hb;have hac:B6 a.loc=some c:=hc.1▸Vw;have hlt:=h.lt ha hac
  have own:O k c→Knows t k i:=fun ho=>by
   have:=h.ow k hk i a c ha hac ho;obtain⟨x,hx,Hy⟩:=eW.1 this;have:=knows_own hx;rwa [Hy] at this
  rcases hr with hr|hr
  ·rcases hc.2.2.1 with h1|h1
   ·exact h.wk k hk i a c ha hac hr h1
   ·exact absurd hr (tv c (hwr h1))
  ·rcases hW c hr with ho|hge
   ·exact own ho
   ·omega
 ·obtain⟨x,hx,wM⟩:=touch_of ha;rcases iu hx with⟨hi,hx'⟩|⟨_,Gc⟩
  ·rcases h.known i a c (by rw[touchAt_of hx'];exact wM) hc with rF|⟨g,L6,LZ,JY⟩
   ·exact .inl (rF.app u)
   ·refine .inr ⟨g,L6,g?_app LZ,JY.imp (fun ho=>?_) id⟩
    by_cases e:g=k
    ·subst e;simp only[if_true];exact hO c ho
    ·simp only[e,if_false];exact ho
  ·obtain⟨_,c',hc',hr,hwr⟩:=(hu x Gc).2.1 a wM;rw[hc] at hc';cases hc';refine .inr ⟨k,hk,by simp only[Trace.g?,hx,ej];rw[(hu x Gc).1],?_⟩;simp only[if_true];rcases hr with hr|hr
   ·cases hw:a.write with
    |false=>exact .inr ⟨rfl,hr⟩
    |true=>exact .inl (hwr hw)
   ·exact .inl hr
 ·obtain⟨x,hx,wM⟩:=touch_of ha;rcases iu hx with⟨hi,hx'⟩|⟨_,Gc⟩
  ·exact(h.wk g L6 i a c (by rw[touchAt_of hx'];exact wM) hc hs' hw).app u
  ·obtain⟨_,c',hc',_,hwr⟩:=(hu x Gc).2.1 a wM;rw[hc] at hc';cases hc'
   by_cases e:g=k
   ·subst e;exact absurd hs' (tv c (hwr hw))
   ·exact absurd hs' (hg g L6 e c (hwr hw)).1
 ·obtain⟨x,hx,wM⟩:=touch_of ha
  by_cases e:g=k
  ·subst e;simp only[if_true] at ho;rcases iu hx with⟨hi,hx'⟩|⟨_,Gc⟩
   ·have ha':touchAt t i=some a:=by rw[touchAt_of hx'];exact wM
    rcases hW c ho with ho'|hge
    ·exact g?_app (h.ow g L6 i a c ha' hc ho')
    ·have:=h.lt ha' hc;omega
   ·simp only[Trace.g?,hx,ej];rw[(hu x Gc).1]
  ·simp only[e,if_false] at ho;rcases iu hx with⟨hi,hx'⟩|⟨_,Gc⟩
   ·exact g?_app (h.ow g L6 i a c (by rw[touchAt_of hx'];exact wM) hc ho)
   ·obtain⟨_,c',hc',hr,_⟩:=(hu x Gc).2.1 a wM;rw[hc] at hc';cases hc';rcases hr with hr|hr
    ·exact absurd ho (hs g L6 e c hr)
    ·exact absurd ho (hg g L6 e c hr).2
 ·obtain⟨x,hx,Hy⟩:=eW.1 h1;rcases iu hx with⟨hi,hx'⟩|⟨_,Gc⟩
  ·rcases h.over i g (by rw[←g?_old (u:=u) hi];exact h1) h2 (ri hi h3) with⟨j,hj,hb⟩|hA
   ·exact .inl ⟨j,g?_app hj,hb_app u hb⟩
   ·exact .inr hA
  ·rw[(hu x Gc).1] at Hy;exact .inr (Hy▸hk)
 ·rw[iE _ _ _ fun op hop=>(hu op hop).2.2.1];exact h.hears
 ·rw[iE _ _ _ fun op hop=>(hu op hop).2.2.1];exact h.tT g L6
 ·exact seen_app (fun op hop=>MemAct.low_mono hB (h.seen op hop)) fun op hop=>(hu op hop).2.2.2
theorem fO(hn : ∀op∈u,op.act.touch?=none){i:Nat}{a:Touch}(h:touchAt (t ++ u) i=some a):i<t.size∧touchAt t i=some a:=by
 obtain⟨x,hx,wM⟩:=touch_of h;rcases iu hx with⟨hi,hx'⟩|⟨_,Gc⟩
 ·exact⟨hi,by rw[touchAt_of hx'];exact wM⟩
 ·rw[hn x Gc] at wM;cases wM
theorem Bo(h : ∀said,¬Race said t)(hn : ∀op∈u,op.act.touch?=none)(said:Bool) : ¬Race said (t ++ u):=by
 rintro⟨i,j,S9,⟨a,b,ha,hb,hc⟩,n1,n2⟩;obtain⟨hi,ha'⟩:=fO hn ha;obtain⟨hj,hb'⟩:=fO hn hb;exact h said ⟨i,j,S9,⟨a,b,ha',hb',hc⟩,fun e=>n1 (hb_app u e),fun e=>n2 (hb_app u e)⟩
theorem PT.appMute(h:PT A S O B t)(hB:B≤B')(hn : ∀op∈u,op.act.touch?=none∧od op∧op.act.low B')(hA : ∀g,A' g→A g)(hK : ∀g,A g→¬A' g→∀i,Knows t g i→Knows (t ++ u) 0 i∧∃j,(t ++ u).g? j=some 0∧HappensBefore (t ++ u) i j):PT A' S O B' (t ++ u):=by
 have hn':=fun op hop=>(hn op hop).1;refine⟨Bo h.clean hn',fun i a c ha hc=>?_,fun g hg i a c ha hc hs hw=>?_,fun g hg i a c ha hc ho=>?_,fun i g h1 h2 h3=>?_,?_,fun g hg=>?_,?_,fun g hg=>h.pos g (hA g hg)⟩
 ·obtain⟨hi,ha'⟩:=fO hn' ha;rcases h.known i a c ha' hc with hk|⟨g,hg,LZ,JY⟩
  ·exact .inl (hk.app u)
  ·by_cases EP:A' g
   ·exact .inr ⟨g,EP,g?_app LZ,JY⟩
   ·obtain⟨x,hx,Hy⟩:=eW.1 LZ;have hkn:=knows_own hx;rw[Hy] at hkn;exact .inl (hK g hg EP i hkn).1
 ·obtain⟨hi,ha'⟩:=fO hn' ha;exact(h.wk g (hA g hg) i a c ha' hc hs hw).app u
 ·obtain⟨hi,ha'⟩:=fO hn' ha;exact g?_app (h.ow g (hA g hg) i a c ha' hc ho)
 ·obtain⟨x,c,hx,_⟩:=ze h3;obtain⟨hi,_⟩:=fO hn' hx;have LZ:t.g? i=some g:=by rw[←g?_old (u:=u) hi];exact h1
  rcases h.over i g LZ h2 (ri hi h3) with⟨j,hj,hb⟩|L6
  ·exact .inl ⟨j,g?_app hj,hb_app u hb⟩
  ·by_cases EP:A' g
   ·exact .inr EP
   ·obtain⟨x,hx,Hy⟩:=eW.1 LZ;have hkn:=knows_own hx;rw[Hy] at hkn;exact .inl (hK g L6 EP i hkn).2
 ·rw[iE _ _ _ fun op hop=>(hn op hop).2.1];exact h.hears
 ·rw[iE _ _ _ fun op hop=>(hn op hop).2.1];exact h.tT g (hA g hg)
 ·exact seen_app (fun op hop=>MemAct.low_mono hB (h.seen op hop)) fun op hop=>(hn op hop).2.2
end
section
variable{A A':Nat→Prop}{S O S' O':Nat→Nat→Prop}{B B':Nat}{t u:Trace}
theorem Sl{g:Nat}(hu : ∀op∈u,od op) : ∀m,m≤u.size→(t ++ u).deaf g (t.size+m)=Deaf t g:=by
 intro m
 induction m with
 |zero=>intro _;exact deaf_old (ay _)
 |succ m ih=>
  intro hm
  have Xg:(t ++ u)[t.size+m]?=some u[m]:=by
   rw[Array.getElem?_append_right (by omega),rS,aR (by omega)]
  rw[show t.size+(m+1)=t.size+m+1 by omega,deaf_succ Xg,ih (by omega)];have hy:=hu u[m] (Array.getElem_mem _);unfold deafStep;split
  ·rename_i e;exact absurd e hy.1
  ·rename_i e;exact absurd e hy.2
  ·rfl
theorem heard_new(hu : ∀op∈u,od op){m:Nat}{x:MemOp}(hx:u[m]?=some x)(hd:Deaf t x.g=0):(t ++ u).heard (t.size+m):=by
 have hm:m<u.size:=(aj.1 hx).1;refine⟨x.g,?_,?_⟩
 ·rw[Trace.g?,Array.getElem?_append_right (by omega),rS,hx];rfl
 ·rw[Sl hu m (by omega)];exact hd
theorem RG(hu : ∀op∈u,od op){k c n m m':Nat}{x y:MemOp}(hx:u[m]?=some x)(hy:u[m']?=some y)(Ri:x.g=k)(wM:x.act=.send c n)(PR:y.g=0)(hya:y.act=.recvDone c n)
  (K0:Deaf t k=0) (hd0:Deaf t 0=0) {i:Nat} (h:Knows t k i):Knows (t ++ u) 0 i∧∃j,(t ++ u).g? j=some 0∧HappensBefore (t ++ u) i j:=by
 have hxp:(t ++ u)[t.size+m]?=some x:=by rw[Array.getElem?_append_right (by omega),rS,hx]
 have hyp:(t ++ u)[t.size+m']?=some y:=by rw[Array.getElem?_append_right (by omega),rS,hy]
 have h1:=h.hb_new (by omega) hxp Ri;have e:HappensBefore (t ++ u) (t.size+m) (t.size+m'):=.single (.inr ⟨.handOver (c:=c) (k:=n) (by rw[act?_of hxp,wM]) (by rw[act?_of hyp,hya]),heard_new hu hx (by rw[Ri];exact K0),heard_new hu hy (by rw[PR];exact hd0)⟩);have h2:=h1.trans e;exact⟨⟨_,y,hyp,PR,.inr h2⟩,_,by simp[Trace.g?,hyp,PR],h2⟩
def GG(k c n:Nat)(u:Trace):Prop:=∃f1 p1 f2 p2 f3 p3 f4 p4 cap,u = #[{ g:=k,fn:=f1,pos:=p1,act:=.send c n },{ g:=0,fn:=f2,pos:=p2,act:=.recv c n cap },{ g:=k,fn:=f3,pos:=p3,act:=.sendDone c n },{ g:=0,fn:=f4,pos:=p4,act:=.recvDone c n }]
theorem GG.mute{k c n:Nat}(h:GG k c n u)(hc:c<B') : ∀op∈u,op.act.touch?=none∧od op∧op.act.low B':=by
 obtain⟨f1,p1,f2,p2,f3,p3,f4,p4,cap,rfl⟩:=h;intro op hop;simp only[fB,cC,eR,or_false] at hop;rcases hop with rfl|rfl|rfl|rfl<;>exact⟨rfl,⟨by simp,by simp⟩,hc⟩
theorem PT.Za(h:PT A S O B t)(hB:B≤B'){k c n:Nat}(hu:GG k c n u)(hc:c<B')(hk:A k)(hA : ∀g,A' g↔A g∨False):PT A' S O B' (t ++ u):=
 h.appMute hB (hu.mute hc) (fun g hg=>((hA g).1 hg).resolve_right id) fun g hg hn=>absurd ((hA g).2 (.inl hg)) hn
theorem PT.N7(h:PT A S O B t)(hB:B≤B'){k c n:Nat}(hu:GG k c n u)(hc:c<B')(hk:A k):PT (fun g=>A g∧g≠k) S O B' (t ++ u):=by
 refine h.appMute hB (hu.mute hc) (fun g hg=>hg.1) fun g hg hn i hkn=>?_;have e:g=k:=Classical.byContradiction fun e=>hn ⟨hg,e⟩;subst e;have hw:=fun op hop=>(hu.mute hc op hop).2.1;have hd0:=h.hears;have K0:=h.tT g hk;obtain⟨f1,p1,f2,p2,f3,p3,f4,p4,cap,rfl⟩:=hu;exact RG hw (m:=0) (m':=3) rfl rfl rfl rfl rfl rfl K0 hd0 hkn
theorem PT.spawn(h:PT A S O B t)(hB:B≤B'){k:Nat}(hk : ¬A k)(hk0:k≠0)(K0:Deaf t k=0){x y:MemOp}(hx:x.g=0∧x.act=.go k)(hy:y.g=k∧y.act=.start){Sk:Nat→Prop}(hs : ∀g,A g→∀c,Sk c→¬O g c) :
  PT (fun g=>A g∨g=k) (fun g=>if g=k then Sk else S g) (fun g=>if g=k then fun _=>False else O g) B' (t ++ #[x,y]):=by
 have hn : ∀op∈#[x,y],op.act.touch?=none∧od op∧op.act.low B':=by
  intro op hop;simp only[fB,cC,eR,or_false] at hop;rcases hop with rfl|rfl
  ·rw[hx.2];exact⟨rfl,⟨by rw[hx.2];simp,by rw[hx.2];simp⟩,trivial⟩
  ·rw[hy.2];exact⟨rfl,⟨by rw[hy.2];simp,by rw[hy.2];simp⟩,trivial⟩
 have hn':=fun op hop=>(hn op hop).1;have h1:PT A S O B' (t ++ #[x,y]):=h.appMute hB hn (fun g hg=>hg) fun g hg hn=>absurd hg hn;have hne : ∀g,A g→g≠k:=fun g hg e=>hk (e▸hg);refine⟨h1.clean,fun i a c ha hc=>?_,fun g hg i a c ha hc hs' hw=>?_,fun g hg i a c ha hc ho=>?_,fun i g e1 e2 e3=>(h1.over i g e1 e2 e3).imp id .inl,h1.hears,fun g hg=>?_,h1.seen,fun g hg=>?_⟩
 ·rcases h1.known i a c ha hc with rF|⟨g,hg,LZ,JY⟩
  ·exact .inl rF
  ·exact .inr ⟨g,.inl hg,LZ,by simpa only[hne g hg,if_false] using JY⟩
 ·by_cases e:g=k
  ·subst e;simp only[if_true] at hs';obtain⟨_,ha'⟩:=fO hn' ha;rcases h.known i a c ha' hc with rF|⟨g',EP,_,JY⟩
   ·exact Go.ConcN.fork_knows hx hy h.hears K0 rF
   ·rcases JY with ho|⟨hw',_⟩
    ·exact absurd ho (hs g' EP c hs')
    ·rw[hw] at hw';cases hw'
  ·simp only[e,if_false] at hs';exact h1.wk g (hg.resolve_right e) i a c ha hc hs' hw
 ·by_cases e:g=k
  ·simp only[e,if_true] at ho
  ·simp only[e,if_false] at ho;exact h1.ow g (hg.resolve_right e) i a c ha hc ho
 ·rcases hg with hg|rfl
  ·exact h1.tT g hg
  ·rw[iE _ _ _ fun op hop=>(hn op hop).2.1];exact K0
 ·rcases hg with hg|rfl
  ·exact h1.pos g hg
  ·exact hk0
end
section
variable{P:aN}
theorem Eo(q:Question){α:Type}(f:Nat→jO α)(n:Nat)(hn:0<n)(hq:q=.select n∨∃what,q=.extern what n)(w:ar) : ∃a d,a<n∧(zH q >>= f).run P w=(f a).run P (w.at d):=by
 have e:(zH q >>= f).run P w=if q.forced then(f 0).run P w else(f (q.cut (w.tape w.drawn q))).run P { w with drawn:=w.drawn+1 }:=rfl
 rw[e]
 by_cases hf:q.forced=true
 ·exact⟨0,w.drawn,hn,by rw[if_pos hf];rfl⟩
 ·refine⟨_,w.drawn+1,?_,by rw[if_neg hf];rfl⟩;rcases hq with rfl|⟨what,rfl⟩
  ·simp only[Question.cut];exact Nat.mod_lt _ hn
  ·simp only[Question.cut];rw[if_neg (by omega)];exact Nat.mod_lt _ hn
def Hb(ready:List (Nat × mU × List Way)):jO (Nat × mU × Way):=do
 let a ←zH (.select ready.length);let (k,c,ws):=ready.getD a (0,default,[])
 let b ←zH (.extern "which waiting goroutine is the partner" ws.length)
 pure (k,c,ws.getD b .closed)
theorem QG(ready:List (Nat × mU × List Way))(hne:ready≠[])(hw : ∀x∈ready,x.2.2≠[])(w:ar) :
  ∃x∈ready,∃y∈x.2.2,∃d,(Hb ready).run P w=.ok (x.1,x.2.1,y) (w.at d):=by
 unfold Hb
 obtain⟨a,d,ha,e⟩:=Eo (P:=P) (.select ready.length) (fun a=>do
  let (k,c,ws):=ready.getD a (0,default,[])
  let b ←zH (.extern "which waiting goroutine is the partner" ws.length)
  pure (k,c,ws.getD b .closed)) ready.length (cP.2 hne) (.inl rfl) w
 rw[e];have hx:ready.getD a (0,default,[])=ready[a]:=by simp[List.getD,ha]
 rw[hx];have hmem:ready[a]∈ready:=cz ha;generalize ready[a]=x at hmem;obtain⟨k,c,ws⟩:=x;have I1:=hw _ hmem;dsimp only at I1 ⊢
 obtain⟨b,d',hb,e2⟩:=Eo (P:=P) (.extern "which waiting goroutine is the partner" ws.length) (fun b=>(pure (k,c,ws.getD b .closed):jO (Nat × mU × Way))) ws.length (cP.2 I1) (.inr ⟨_,rfl⟩) (w.at d);refine⟨_,hmem,ws[b],cz hb,d',?_⟩;rw[e2];have:ws.getD b .closed=ws[b]:=by simp[List.getD,hb]
 rw[this];rfl
variable{gs:Array aF}{w w₁:ar}{sl:Option (Nat × Nat)}{i:Nat}{g g₂:aF}{es:Array gy}{c0 c1 s0 r0 s1 r1:Nat}{t0 t1:Bool}{z0 z1:ak}
theorem rU{w:ar}{gs:Array aF}{c s r:Nat}{tm:Bool}{z:ak}(hc:w.heap[c]?=some (.chan 0 #[] false s r tm)):ways w gs (rcase c z)=(wI gs c true).map fun(h,k)=>Way.partner h k:=by
 simp only[ways,rcase,hc];cases wI gs c true with
 |nil=>simp
 |cons p ps=>simp
theorem Fh(hi:gs[i]?=some g)(h:fK P (i==0) g w=.comm g₂ #[rcase c0 z0,rcase c1 z1] true .select w₁ es)
  (h0:w₁.heap[c0]?=some (.chan 0 #[] false s0 r0 t0)) (h1:w₁.heap[c1]?=some (.chan 0 #[] false s1 r1 t1))
  (hne:wI (gs.setIfInBounds i ph) c0 true≠[]∨wI (gs.setIfInBounds i ph) c1 true≠[])
  (hall : ∀c,c=c0∨c=c1→∀j k,(j,k)∈wI (gs.setIfInBounds i ph) c true→k=0∧j≠i∧∃gj vj zj shj,gs[j]?=some (iI gj #[nJ c vj zj] shj)) :
  ∃(kk c s r:Nat) (tm:Bool) (j:Nat) (gj:aF) (vj zj:ak) (shj:CommShape) (d:Nat),((kk=0∧c=c0∧s=s0∧r=r0∧tm=t0)∨(kk=1∧c=c1∧s=s1∧r=r1∧tm=t1))∧j≠i∧gs[j]?=some (iI gj #[nJ c vj zj] shj)∧
   runT P (crowd gs w sl) i=(.next (crowd ((gs.setIfInBounds j (gj.finishComm P #[nJ c vj zj] shj 0 af false)).setIfInBounds i (g₂.finishComm P #[rcase c0 z0,rcase c1 z1] .select kk vj true)) ((w₁.at d).setChan c 0 #[] false (s+1) (r+1) tm) sl),
    iL i g.frame.fn g.frame.place es ++ #[{ g:=j,fn:=gj.frame.fn,pos:=gj.frame.place,act:=.send c s },{ g:=i,fn:=g₂.frame.fn,pos:=g₂.frame.place,act:=.recv c r 0 },
     { g:=j,fn:=gj.frame.fn,pos:=gj.frame.place,act:=.sendDone c s },{ g:=i,fn:=g₂.frame.fn,pos:=g₂.frame.place,act:=.recvDone c r }]):=by
 have hw0:=rU (gs:=gs.setIfInBounds i ph) (z:=z0) h0;have hw1:=rU (gs:=gs.setIfInBounds i ph) (z:=z1) h1;generalize hL:((#[rcase c0 z0,rcase c1 z1].zipIdx.toList.map fun(c,k)=>(k,c,ways w₁ (gs.setIfInBounds i ph) c)).filter fun(_,_,ws)=>!ws.isEmpty)=L
 have hmem : ∀x,x∈L↔(x=(0,rcase c0 z0,ways w₁ (gs.setIfInBounds i ph) (rcase c0 z0))∨x=(1,rcase c1 z1,ways w₁ (gs.setIfInBounds i ph) (rcase c1 z1)))∧x.2.2≠[]:=by
  intro x;rw[←hL];simp[List.mem_filter]
 have aaK:L≠[]:=by
  intro e;rcases hne with hn|hn
  ·have:=(hmem _).2 ⟨.inl rfl,by rw[hw0];simpa using hn⟩;rw[e] at this;cases this
  ·have:=(hmem _).2 ⟨.inr rfl,by rw[hw1];simpa using hn⟩;rw[e] at this;cases this
 obtain⟨x,hx,y,hy,d,Vh⟩:=QG (P:=P) L aaK (fun x hx=>((hmem x).1 hx).2) w₁
 have Xb : #[rcase c0 z0,rcase c1 z1].any (illMade w₁)=false:=by
  refine any_ill fun cc hcc=>?_;simp only[fB,cC,eR,or_false] at hcc;rcases hcc with rfl|rfl
  ·exact made_recv z0 h0
  ·exact made_recv z1 h1
 have key : ∀(kk c s r:Nat) (tm:Bool) (z:ak),w₁.heap[c]?=some (.chan 0 #[] false s r tm)→(c=c0∨c=c1)→∀y,y∈((wI (gs.setIfInBounds i ph) c true).map fun(h,k)=>Way.partner h k)→(Hb L).run P w₁=.ok (kk,rcase c z,y) (w₁.at d)→
   ∃(j:Nat) (gj:aF) (vj zj:ak) (shj:CommShape),j≠i∧gs[j]?=some (iI gj #[nJ c vj zj] shj)∧
   runT P (crowd gs w sl) i=(.next (crowd ((gs.setIfInBounds j (gj.finishComm P #[nJ c vj zj] shj 0 af false)).setIfInBounds i (g₂.finishComm P #[rcase c0 z0,rcase c1 z1] .select kk vj true)) ((w₁.at d).setChan c 0 #[] false (s+1) (r+1) tm) sl),
    iL i g.frame.fn g.frame.place es ++ #[{ g:=j,fn:=gj.frame.fn,pos:=gj.frame.place,act:=.send c s },{ g:=i,fn:=g₂.frame.fn,pos:=g₂.frame.place,act:=.recv c r 0 },
     { g:=j,fn:=gj.frame.fn,pos:=gj.frame.place,act:=.sendDone c s },{ g:=i,fn:=g₂.frame.fn,pos:=g₂.frame.place,act:=.recvDone c r }]):=by
  intro kk c s r tm z hc hcc y hy YF;obtain⟨⟨j,k⟩,hjk,rfl⟩:=List.mem_map.1 hy;obtain⟨rfl,S9,gj,vj,zj,shj,hj⟩:=hall c hcc j k hjk;refine⟨j,gj,vj,zj,shj,S9,hj,?_⟩;have hj':=stand_get (i:=i) S9 hj;have hfp:=finishPartner_at P (gs.setIfInBounds i ph) hj' (cs:=#[nJ c vj zj]) (sh:=shj) rfl 0 af;have hgd:(gs.setIfInBounds i ph).getD j default=iI gj #[nJ c vj zj] shj:=by rw[Array.getD_eq_getD_getElem?,hj'];rfl
  have jq:offeredValue (gs.setIfInBounds i ph) j 0=vj:=by simp[offeredValue,hj',iI,nJ]
  rw[Go.Conc.runT_crowd_comm hi h];unfold communicate;unfold Hb at YF
  have hLe:L.isEmpty=false:=by cases L with
   |nil=>exact absurd rfl aaK
   |cons a l=>rfl
  simp only[hL,hLe,bF,if_false,YF];have hcd:(w₁.at d).heap[c]?=some (.chan 0 #[] false s r tm):=hc;rw[if_neg]
  ·simp[rcase,hcd,hfp,hgd,jq,set_stand2,nJ,iI,World.setChan,crowd];rfl
  ·rw[Bool.not_eq_true];exact Xb
 rcases((hmem x).1 hx).1 with rfl|rfl
 ·obtain⟨j,gj,vj,zj,shj,h5,h6,h7⟩:=key 0 c0 s0 r0 t0 z0 h0 (.inl rfl) y (by rw[←hw0];exact hy) Vh;exact⟨0,c0,s0,r0,t0,j,gj,vj,zj,shj,d,.inl ⟨rfl,rfl,rfl,rfl,rfl⟩,h5,h6,h7⟩
 ·obtain⟨j,gj,vj,zj,shj,h5,h6,h7⟩:=key 1 c1 s1 r1 t1 z1 h1 (.inr rfl) y (by rw[←hw1];exact hy) Vh;exact⟨1,c1,s1,r1,t1,j,gj,vj,zj,shj,d,.inr ⟨rfl,rfl,rfl,rfl,rfl⟩,h5,h6,h7⟩
end
inductive oY{α:Type}(R:α→α→Prop):List α→List α→Prop
 |nil:oY R [] []
 |cons {x y:α} {l m:List α}:R x y→oY R l m→oY R (x :: l) (y :: m)
inductive LT{α:Type}(D E:α→α→Prop):List α→List α→Prop
 |drop {x:α} {l l':List α}:oY E l' l→LT D E l' (x :: l)
 |head {x x':α} {l l':List α}:D x' x→oY E l' l→LT D E (x' :: l') (x :: l)
 |tail {x x':α} {l l':List α}:E x' x→LT D E l' l→LT D E (x' :: l') (x :: l)
section
variable{α:Type}{D E:α→α→Prop}
theorem oY.refl(hr : ∀x,E x x) : ∀l,oY E l l
 |[]=>.nil
 |x :: l=>.cons (hr x) (oY.refl hr l)
theorem oY.trans(ht : ∀x y z,E x y→E y z→E x z){a b c:List α}(h:oY E a b):oY E b c→oY E a c:=by
 induction h generalizing c with
 |nil=>intro h;exact h
 |cons h1 _ ih=>intro h2;cases h2 with|cons h3 h4=>exact .cons (ht _ _ _ h1 h3) (ih h4)
theorem LT.shift(ht : ∀x y z,E x y→E y z→E x z)(hd : ∀x y z,D x y→E y z→D x z){a b c:List α}(h:LT D E a b):oY E b c→LT D E a c:=by
 induction h generalizing c with
 |drop h=>intro h2;cases h2 with|cons h3 h4=>exact .drop (h.trans ht h4)
 |head h1 h=>intro h2;cases h2 with|cons h3 h4=>exact .head (hd _ _ _ h1 h3) (h.trans ht h4)
 |tail h1 _ ih=>intro h2;cases h2 with|cons h3 h4=>exact .tail (ht _ _ _ h1 h3) (ih h4)
theorem AK(ht : ∀x y z,E x y→E y z→E x z)(hd : ∀x y z,D x y→E y z→D x z){l l':List α}(h:Acc (LT D E) l)(he:oY E l' l):Acc (LT D E) l':=
 ⟨_,fun m hm=>h.inv (hm.shift ht hd he)⟩
theorem EF(hr : ∀x,E x x)(ht : ∀x y z,E x y→E y z→E x z)(hd : ∀x y z,D x y→E y z→D x z) : ∀l:List α,(∀x∈l,Acc D x)→Acc (LT D E) l
 |[],_=>⟨_,fun m hm=>by cases hm⟩
 |x :: l,h=>by
  have hx:=h x (by simp);have hl:=EF hr ht hd l fun y hy=>h y (by simp[hy]);clear h
  induction hx generalizing l with
  |intro x _ ihx=>
   induction hl with
   |intro l hl ihl=>
    refine⟨_,fun m hm=>?_⟩;have xE:Acc (LT D E) l:=⟨_,hl⟩
    cases hm with
    |drop h=>exact AK ht hd xE h
    |head h1 h2=>exact ihx _ h1 _ (AK ht hd xE h2)
    |tail h1 h2=>exact AK ht hd (ihl _ h2) (.cons h1 (.refl hr _))
theorem oY.of_map{f:α→α}(h : ∀x,E (f x) x) : ∀l:List α,oY E (l.map f) l
 |[]=>.nil
 |x :: l=>.cons (h x) (oY.of_map h l)
theorem LT.mid{f:α→α}(h : ∀x,E (f x) x){x x':α}(hd:D x' x)(l2:List α) : ∀l1:List α,LT D E (l1.map f ++ x' :: l2.map f) (l1 ++ x :: l2)
 |[]=>.head hd (.of_map h l2)
 |y :: l=>.tail (h y) (LT.mid h hd l2 l)
theorem LT.cut{f:α→α}(h : ∀x,E (f x) x){x:α}(l2:List α) : ∀l1:List α,LT D E (l1.map f ++ l2.map f) (l1 ++ x :: l2)
 |[]=>.drop (.of_map h l2)
 |y :: l=>.tail (h y) (LT.cut h l2 l)
end
section
variable(P:aN)(c0 c1:Nat)
def zS:Value:=.tuple #[]
def AtSend(c:Nat)(v:ak)(g:aF):Prop:=g.status=.running∧g.dying=none∧g.offers=none∧∀w,fK P false g w=.comm g #[nJ c v zS] true .send w #[]
inductive gX(S:Nat→Prop)(p:ak):Bool→(Nat→Prop)→aF→ar→Prop
 |step {b:Bool} {O:Nat→Prop} {g:aF} {w:ar}:g.status=.running→g.dying=none→
   (∀w1,iD (fun c=>S c∨O c) w w1→∃g2 w2 es,fK P false g w1=.go g2 w2 es∧IW S O w1 w2 es∧g2.status=.running∧g2.dying=none)→
   (∀w1,iD (fun c=>S c∨O c) w w1→∀g2 w2 es,fK P false g w1=.go g2 w2 es→gX S p b (own O w1 w2) g2 w2)→gX S p b O g w
 |A7 {O:Nat→Prop} {g:aF} {w:ar}:AtSend P c0 p g→gX S p false O (fL g af) w→gX S p true O g w
 |A6 {O:Nat→Prop} {g:aF} {w:ar} {n:Nat}:AtSend P c1 (.bool true) g→QuitsD P n 0 (fL g af)→gX S p false O g w
theorem gX.rely{S:Nat→Prop}{p:ak}{b:Bool}{O:Nat→Prop}{g:aF}{w:ar}(h:gX P c0 c1 S p b O g w) : ∀ {w1:ar},iD (fun c=>S c∨O c) w w1→gX P c0 c1 S p b O g w1:=by
 induction h with
 |step a b c d _=>intro w1 hr;exact .step a b (fun w2 h2=>c w2 (hr.trans h2)) fun w2 h2=>d w2 (hr.trans h2)
 |A7 h _ ih=>intro w1 hr;exact .A7 h (ih hr)
 |A6 h hq=>intro w1 hr;exact .A6 h hq
theorem gX.CB{S:Nat→Prop}{p:ak}{b:Bool}{Stop:(Nat→Prop)→aF→ar→Prop}{O:Nat→Prop}{g:aF}{w:ar}(h:Walk P false S Stop O g w)(k : ∀O g w,Stop O g w→gX P c0 c1 S p b O g w):gX P c0 c1 S p b O g w:=by
 induction h with
 |@stop O g w h=>exact k _ _ _ (h w (.refl _ _))
 |step a b c d ih=>exact .step a b c ih
structure X where
 id:Nat
 S:Nat→Prop
 p:ak
 b:Bool
 O:Nat→Prop
 g:aF
 w:ar
def X.at(w:ar)(x:X):X:={ x with w:=w }
inductive WS:X→Prop
 |run {x:X}:gX P c0 c1 x.S x.p x.b x.O x.g x.w→WS x
 |ui {x:X} {g:aF}:x.b=true→AtSend P c0 x.p g→gX P c0 c1 x.S x.p false x.O (fL g af) x.w→x.g=iI g #[nJ c0 x.p zS] .send→WS x
 |uh {x:X} {g:aF} {n:Nat}:x.b=false→AtSend P c1 (.bool true) g→QuitsD P n 0 (fL g af)→x.g=iI g #[nJ c1 (.bool true) zS] .send→WS x
def Sh(x' x:X):Prop:=∃w,iD (fun c=>x.S c∨x.O c) x.w w∧x'=x.at w
inductive Dn:X→X→Prop
 |step {x x':X} {w1 w2:ar} {g2:aF} {es:Array gy}:x.g.status=.running→iD (fun c=>x.S c∨x.O c) x.w w1→fK P false x.g w1=.go g2 w2 es→Sh x' { x with O:=own x.O w1 w2,g:=g2,w:=w2 }→Dn x' x
 |yr {x x':X} {c:Nat} {v:ak}:AtSend P c v x.g→Sh x' { x with g:=iI x.g #[nJ c v zS] .send }→Dn x' x
 |sent {x x':X} {g:aF}:x.b=true→AtSend P c0 x.p g→(x.g=g∨x.g=iI g #[nJ c0 x.p zS] .send)→Sh x' { x with b:=false,g:=fL g af }→Dn x' x
theorem mI(x:X):Sh x x:=⟨x.w,.refl _ _,rfl⟩
theorem oI(x y z:X)(h:Sh x y)(h':Sh y z):Sh x z:=by
 obtain⟨w,hr,rfl⟩:=h;obtain⟨w',hr',rfl⟩:=h';exact⟨w,hr'.trans hr,rfl⟩
theorem Eg(x y z:X)(h:Dn P c0 x y)(h':Sh y z):Dn P c0 x z:=by
 obtain⟨w,hr,rfl⟩:=h';cases h with
 |step h1 h2 h3 h4=>exact .step h1 (hr.trans h2) h3 h4
 |yr h1 h2=>
  obtain⟨w2,hr2,rfl⟩:=h2;exact .yr h1 ⟨w2,hr.trans hr2,rfl⟩
 |sent h1 h2 h3 h4=>
  obtain⟨w2,hr2,rfl⟩:=h4;exact .sent h1 h2 h3 ⟨w2,hr.trans hr2,rfl⟩
theorem EG{x x':X}(h:Acc (Dn P c0) x)(he:Sh x' x):Acc (Dn P c0) x':=⟨_,fun y hy=>h.inv (Eg P c0 _ _ _ hy he)⟩
theorem rM{c c':Nat}{v v':ak}{g:aF}{cs:Array mU}{sh:CommShape}(h:AtSend P c v (iI g cs sh)):False:=by cases h.1
theorem AH{S:Nat→Prop}{p:ak}{b:Bool}{O:Nat→Prop}{g:aF}{w:ar}(h:gX P c0 c1 S p b O g w)(id:Nat):Acc (Dn P c0) ⟨id,S,p,b,O,g,w⟩:=by
 induction h with
 |@step b O g w hr hd hc hk ih=>
  refine⟨_,fun y hy=>?_⟩;obtain⟨g2,w2,es,he,_⟩:=hc w (.refl _ _);cases hy with
  |step h1 h2 h3 h4=>exact EG P c0 (ih _ h2 _ _ _ h3) h4
  |yr h1 h2=>have:=h1.2.2.2 w;dsimp only at this;rw[he] at this;cases this
  |sent h1 h2 h3 h4=>
   rcases h3 with h3|h3
   ·dsimp only at h3;subst h3;have:=h2.2.2.2 w;rw[he] at this;cases this
   ·dsimp only at h3;subst h3;cases hr
 |@A7 O g w ha _ ih=>
  have hp:Acc (Dn P c0) ⟨id,S,p,true,O,iI g #[nJ c0 p zS] .send,w⟩:=by
   refine⟨_,fun y hy=>?_⟩;cases hy with
   |step h1 _ _ _=>cases h1
   |yr h1 _=>exact(rM P (c':=0) (v':=p) h1).elim
   |@sent _ _ g0 h1 h2 h3 h4=>
    rcases h3 with h3|h3
    ·dsimp only at h3;rw[←h3] at h2;exact(rM P (c':=0) (v':=p) h2).elim
    ·dsimp only at h3
     have e:g=g0:=by
      have e1:g.frame=g0.frame:=by have:=congrArg Goroutine.frame h3;exact this
      have e2:g.callers=g0.callers:=by have:=congrArg Goroutine.callers h3;exact this
      have e3:=ha.1;have e4:=h2.1;have e5:=ha.2.1;have e6:=h2.2.1;have e7:=ha.2.2.1;have e8:=h2.2.2.1;cases g;cases g0;simp_all
     subst e;exact EG P c0 ih h4
  refine⟨_,fun y hy=>?_⟩;cases hy with
  |step h1 h2 h3 h4=>dsimp only at h3;rw[ha.2.2.2] at h3;cases h3
  |@yr _ _ c v h1 h2=>
   have e:=h1.2.2.2 w;dsimp only at e;rw[ha.2.2.2 w] at e;injection e with e1 e2
   have e3:nJ c0 p zS=nJ c v zS:=by injection e2 with e2;injection e2
   rw[←e3] at h2;exact EG P c0 hp h2
  |sent h1 h2 h3 h4=>
   rcases h3 with h3|h3
   ·dsimp only at h3;subst h3;exact EG P c0 ih h4
   ·dsimp only at h3;subst h3;cases ha.1
 |@A6 O g w n ha hq=>
  have hp:Acc (Dn P c0) ⟨id,S,p,false,O,iI g #[nJ c1 (.bool true) zS] .send,w⟩:=by
   refine⟨_,fun y hy=>?_⟩;cases hy with
   |step h1 _ _ _=>cases h1
   |yr h1 _=>exact(rM P (c':=0) (v':=p) h1).elim
   |sent h1 _ _ _=>cases h1
  refine⟨_,fun y hy=>?_⟩;cases hy with
  |step h1 h2 h3 h4=>dsimp only at h3;rw[ha.2.2.2] at h3;cases h3
  |@yr _ _ c v h1 h2=>
   have e:=h1.2.2.2 w;dsimp only at e;rw[ha.2.2.2 w] at e;injection e with e1 e2
   have e3:nJ c1 (.bool true) zS=nJ c v zS:=by injection e2 with e2;injection e2
   rw[←e3] at h2;exact EG P c0 hp h2
  |sent h1 _ _ _=>cases h1
end
end Go.Lag
