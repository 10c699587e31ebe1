/- A RANGE OVER AN ITERATOR THAT KEEPS STATE OF ITS OWN IN CELLS: the cal .. -/
import Derived.RangeFuncNested
import Derived.RangeFuncBound
import Derived.RangeFuncCalls
import Derived.RangeFuncLeaves
import Derived.Shelf.RegionOpen
import Derived.OwnWalkIn
import Derived.TacticsInMore
import Derived.LoopNIn
import Derived.Test.YtffladgmkiimjaaGreatDoorW01
import Derived.Test.YtffladgmkiimjaaGreatDoorW00
import Derived.LoopIn
import Derived.Maps.OwnIn
import Derived.Maps.AppendAt
import Derived.RangeFuncBox
set_option linter.all false
set_option maxHeartbeats 100000000
set_option maxRecDepth 1000000
open Array renaming getElem_modify → Bh,replicate → aV,getD_eq_getD_getElem? → aW,getElem?_eq_some_iff → ak,replicate_zero → jU,replicate_succ → jV
open Bool renaming and_eq_true → aD
open Go renaming callsIn_wide → Ba,Program → aI,TypeId → aZ,undef → af,Value → aj,World → ar,Operand → bH,results_tmp → bU,execOp → bY,Calls → bm,bodyPost_ret → bn,wp_cond_split → cB,Oper → cy,bodyPost → dQ,wp_ret → gq,yielded → jP,Act → je,Tmp → kr,calls_of_wp → mD,bytes → rO
open Go.Builtin renaming zeroCells → fH
open Go.Code renaming wp → cH
open Go.Ending renaming returned → aC,returned → aK
open Go.Exit renaming ret → ej
open Go.IntKind renaming i64 → ag
open Go.Lib renaming hid → ai
open Go.Obj renaming cells → au
open Go.Operand renaming tmp → aJ
open Go.Proofs.Tryz renaming prog → aq,underlying122 → iM
open Go.Region renaming wanted → cC
open Go.RowKit renaming Below → az
open Go.RowKit.Below renaming heap_alloc → aS,refl → aw,heap_setCell → bj
open Go.Value renaming bool → aF,agg → aO,int → ah,pointer → bp,oneCell' → cu,ownBlock → jc
open Go.World renaming alloc_heap_new → ay,size_alloc → dW,putObj_heap_other → dr,setCell → j3
open List renaming all_eq_true → aU,mem_append → bG,range' → bV,take_of_length_le → cS,mem_map → cY,mem_of_mem_take → fp,length_cons → gi,append_toArray → ia,cons_append → ik,nil_append → j4,size_toArray → jw,push_toArray → jx,range_eq_range' → mF,length_nil → od,length_append → pJ
open List.cons renaming injEq → Aa
open Nat renaming reduceSub → CG,reduceAdd → CH,le_trans → aN,le_refl → ax,lt_of_lt_of_le → bB,zero_add → cJ,eq_of_beq_eq_true → gU
open Option.some renaming injEq → gw
open Or renaming inl → cF
open Prod.mk renaming injEq → iB
namespace Go.Lag
open Go.RowKit
structure Step(X X':Nat→Prop)(W W':ar):Prop where
 os:W'.os=W.os
 tape:W'.tape=W.tape
 output:W'.output=W.output
 size:W.heap.size≤W'.heap.size
 old:∀k,k<W.heap.size→X' k→X k
 same:∀k,k<W.heap.size→¬X k→W'.heap[k]?=W.heap[k]?
theorem Step.refl(X:Nat→Prop)(W:ar):Step X X W W:=⟨rfl,rfl,rfl,ax _,fun _ _ h=>h,fun _ _ _=>rfl⟩
theorem Step.trans{X Y Z:Nat→Prop}{A B C:ar}(h:Step X Y A B)(k:Step Y Z B C):Step X Z A C:=
 ⟨k.os.trans h.os,k.tape.trans h.tape,k.output.trans h.output,aN h.size k.size,
  fun i hi hz=>h.old i hi (k.old i (bB hi h.size) hz),
  fun i hi hx=>(k.same i (bB hi h.size) (fun hy=>hx (h.old i hi hy))).trans (h.same i hi hx)⟩
theorem Step.of_below{X:Nat→Prop}{W W':ar}(h:az W.heap.size W W'):Step X X W W':=
 ⟨h.os,h.tape,h.output,h.size,fun _ _ h=>h,fun k hk _=>h.block k hk⟩
theorem Step.below{X X':Nat→Prop}{W W':ar}(h:Step X X' W W'){n:Nat}(hn:n≤W.heap.size)(hx:∀k,k<n→¬X k):az n W W':=
 ⟨h.os,h.tape,h.output,h.size,fun k hk=>h.same k (bB hk hn) (hx k hk)⟩
def Abides{β:Type}(J:β→(Nat→Prop)→ar→Prop):Prop:=
 ∀s X W W',J s X W→(∀k,X k→W'.heap[k]?=W.heap[k]?)→J s X W'
def Ch{β:Type}(J:β→(Nat→Prop)→ar→Prop):Prop:=∀s X W,J s X W→∀k,X k→k<W.heap.size
def aaB{α:Type}(P:aI)(g:Nat)(la:Array aj)(encs:α→Array aj)(all:List α)(w:ar):Prop:=
 ∀(l:Nat) (J Jx:List α→(Nat→Prop)→ar→Prop) (X:Nat→Prop) (W:ar),
  az w.heap.size w W→(∀k,X k→w.heap.size≤k∧k<W.heap.size)→Abides J→Abides Jx→Ch J→Ch Jx→
  (∀m pre x X1 W1,J pre X1 W1→(∀k,X1 k→w.heap.size≤k)→pre++[x] <+: all→YieldAt Fence.wide m P l (encs x) W1 fun e W'=>∃X2,Step X1 X2 W1 W'∧
   ((e=aC (aF true)∧J (pre++[x]) X2 W')∨(e=aC (aF false)∧Jx (pre++[x]) X2 W')))→
  J [] X W→
  bm P g (la++#[.func (.yield l) #[] #[]]) W fun e W'=>(∃v,e=aC v)∧∃X2,Step X X2 W W'∧(J all X2 W'∨∃pre,Jx pre X2 W')
def abI{α:Type}(I:List α→(Nat→Prop)→ar→Prop)(Ix:Code→List α→(Nat→Prop)→ar→Prop)(X:Nat→Prop)(xs:List α)(W:ar):Exit→je→ar→Prop
 |.normal,_,W'=>∃X2,Step X X2 W W'∧I xs X2 W'
 |.ret,_,W'=>∃X2,Step X X2 W W'∧Ix .ret xs X2 W'
 |.exit id,_,W'=>∃X2,Step X X2 W W'∧Ix (.exit id) xs X2 W'
 |.goto t,_,W'=>∃X2,Step X X2 W W'∧Ix (.goto t) xs X2 W'
 |.panic _,_,_=>False
 |.outgrown,_,_=>False
theorem Step.putObj{X X':Nat→Prop}{W W':ar}(h:Step X X' W W'){l:Nat}(o:Obj)(hl:W.heap.size≤l):Step X X' W (W'.putObj l o):=
 ⟨h.os,h.tape,h.output,by simpa using h.size,h.old,fun k hk hx=>(dr (by omega)).trans (h.same k hk hx)⟩
theorem rQ{α:Type}{P:aI}{n:Nat}{g:bH}{ps:Array kr}{assign body:Code}{Q:Exit→je→ar→Prop}{a:je}{w:ar}
  {gf:Nat} {la:Array aj} (hg:a.eval g=.func (.func gf) la #[]) (eg:∀args w,(callFunc gf args).run P w=.ok (.enter gf args) w)
  {encs:α→Array aj} {all:List α} {w0:ar} (hseq:aaB P gf la encs all w0) (hb0:az w0.heap.size w0 w) (Wb:∀x,(encs x).size=ps.size)
  (I:List α→(Nat→Prop)→ar→Prop) (Ix:Code→List α→(Nat→Prop)→ar→Prop) (hI:Abides I) (hIx:∀c,Abides (Ix c)) (hIb:Ch I) (agD:∀c,Ch (Ix c))
  (X:Nat→Prop) (hX:∀k,X k→w0.heap.size≤k∧k<w.heap.size) (h0:I [] X w)
  (A:List α→α→je→(Nat→Prop)→ar→Prop) (hA:∀pre x,Abides (A pre x))
  (WD:∀(l m:Nat) (pre:List α) (x:α) (X1:Nat→Prop) (W:ar) (K:je→ar→Prop),I pre X1 W→(∀k,X1 k→w0.heap.size≤k)→pre++[x] <+: all→(∀a' X2 W',Step X1 X2 W W'→A pre x a' X2 W'→K a' W')→
   assign.wpIn (Fence.wide.inRound l) m P (Exit.then K (fun _ _ _=>False)) { tmps:=(ps.zip (encs x)).foldl (fun t (p,v)=>t.setIfInBounds p v) a.tmps,defers:=[] } W)
  (ac5:∀(l m:Nat) (pre:List α) (x:α) (a':je) (X1:Nat→Prop) (W:ar),A pre x a' X1 W→(∀k,X1 k→w0.heap.size≤k)→pre++[x] <+: all→body.wpIn (Fence.wide.inRound l) m P (abI I Ix X1 (pre++[x]) W) a' W)
  (hdone:∀(D:Nat) (X2:Nat→Prop) (W:ar),w.heap.size≤D→¬X2 D→Step X X2 w W→I all X2 W→W.heap[D]?=some (.deferred (some []))→Q .normal { a with defers:={ target:=.collected D,args:=#[] }::a.defers } W)
  (BP:∀(D:Nat) (c:Code) (pre:List α) (X2:Nat→Prop) (W:ar),w.heap.size≤D→¬X2 D→Step X X2 w W→Ix c pre X2 W→W.heap[D]?=some (.deferred (some []))→c.wpIn Fence.wide n P Q { a with defers:={ target:=.collected D,args:=#[] }::a.defers } W) :
  (Code.rangeFunc g ps assign body).wpIn Fence.wide n P Q a w:=by
 refine wpIn_rangeFunc ?_;intro fn hfn;rw[show Fence.wide.round=none from rfl];obtain⟨rec,I1⟩:∃rec:LoopState→Option Code→Loop,rec=fun st pe=>{ state:=st,pending:=pe,fn,tmps:=a.tmps,params:=ps,assign,body,defers:=w.heap.size }:=⟨_,rfl⟩
 obtain⟨W1,hW1⟩:∃W1,(w.alloc (.deferred (some []))).alloc (.loop (rec .ready none))=W1:=⟨_,rfl⟩
 have ZU:W1.heap[w.heap.size+1]?=some (.loop (rec .ready none)):=by
  rw[←hW1];have:=ay (w.alloc (.deferred (some []))) (.loop (rec .ready none));rwa [dW] at this
 have hK1:W1.heap[w.heap.size]?=some (.deferred (some [])):=by
  rw[←hW1];exact(aS _ _ _ (by simp)).trans (ay w _)
 have uz:az w.heap.size w W1:=by rw[←hW1];exact((aw _ w).alloc (ax _) _).alloc (by simp) _
 have hs1:W1.heap.size=w.heap.size+2:=by rw[←hW1];simp
 have hI1:I [] X W1:=hI _ _ _ _ h0 (fun k hk=>uz.block k (hX k hk).2);have hb1:az w0.heap.size w0 W1:=hb0.trans (uz.mono hb0.size)
 refine⟨w.heap.size+1,[{ target:=.collected w.heap.size,args:=#[] }],W1,{ target:=.fn (.func gf) #[],args:=la++#[.func (.yield (w.heap.size+1)) #[] #[]] },W1,gf,
  la++#[.func (.yield (w.heap.size+1)) #[] #[]],W1,?_,?_,?_,?_,(fun h=>by cases h),?_⟩
 ·rw[←hW1,I1];exact run_enterLoop_outer _ _ _ _ _
 ·simp only[resolve,hg];simp[go_sem]
 ·intro f' hf';trivial
 ·simp[invoke,go_sem,eg]
 ·rw[Ba]
  refine(hseq (w.heap.size+1)
   (fun pre Y W=>∃Z:Nat→Prop,Y=(fun k=>Z k∨k=w.heap.size∨k=w.heap.size+1)∧(∀k,Z k→k≠w.heap.size∧k≠w.heap.size+1)∧I pre Z W∧W.heap[w.heap.size+1]?=some (.loop (rec .ready none))∧W.heap[w.heap.size]?=some (.deferred (some [])))
   (fun pre Y W=>∃(Z:Nat→Prop) (c:Code),Y=(fun k=>Z k∨k=w.heap.size∨k=w.heap.size+1)∧(∀k,Z k→k≠w.heap.size∧k≠w.heap.size+1)∧Ix c pre Z W∧W.heap[w.heap.size+1]?=some (.loop (rec .done (some c)))∧W.heap[w.heap.size]?=some (.deferred (some [])))
   (fun k=>X k∨k=w.heap.size∨k=w.heap.size+1) W1 hb1 ?_ ?_ ?_ ?_ ?_ ?_ ?_).mono ?_
  ·rintro k (hk|rfl|rfl)
   ·have:=hX k hk;exact⟨this.1,by omega⟩
   ·have:=hb0.size;exact⟨this,by omega⟩
   ·have:=hb0.size;exact⟨by omega,by omega⟩
  ·rintro pre Y W W' ⟨Z,rfl,hz,hi,hl,hk⟩ hs;exact⟨Z,rfl,hz,hI _ _ _ _ hi (fun k h=>hs k (cF h)),(hs _ (.inr (.inr rfl))).trans hl,(hs _ (.inr (cF rfl))).trans hk⟩
  ·rintro pre Y W W' ⟨Z,c,rfl,hz,hi,hl,hk⟩ hs;exact⟨Z,c,rfl,hz,hIx _ _ _ _ _ hi (fun k h=>hs k (cF h)),(hs _ (.inr (.inr rfl))).trans hl,(hs _ (.inr (cF rfl))).trans hk⟩
  ·rintro pre Y W ⟨Z,rfl,hz,hi,hl,hk⟩ k (qH|rfl|rfl)
   ·exact hIb _ _ _ hi k qH
   ·exact(ak.1 hk).1
   ·exact(ak.1 hl).1
  ·rintro pre Y W ⟨Z,c,rfl,hz,hi,hl,hk⟩ k (qH|rfl|rfl)
   ·exact agD _ _ _ _ hi k qH
   ·exact(ak.1 hk).1
   ·exact(ak.1 hl).1
  ·rintro m pre x Y W ⟨Z,rfl,hz,hi,hl,hk⟩ hge hpre;have Zt:∀k,Z k→w0.heap.size≤k:=fun k h=>hge k (cF h);have hlt:w.heap.size+1<W.heap.size:=(ak.1 hl).1;have hy:=run_yield (P:=P) (args:=encs x) hl (by rw[I1];exact Wb x);rw[I1] at hy;refine⟨fn,_,assign,body,hy,roundIn_of_wpIn hfn (WD _ m pre x Z W _ hi Zt hpre ?_)⟩;intro a' Z2 W2 hst ha;have hz1:∀k,Z k→k≠w.heap.size∧k≠w.heap.size+1:=hz;have hl1:W2.heap[w.heap.size+1]?=some (.loop (rec .ready none)):=(hst.same _ hlt (fun h=>(hz _ h).2 rfl)).trans hl;have qq:W2.heap[w.heap.size]?=some (.deferred (some [])):=(hst.same _ (by omega) (fun h=>(hz _ h).1 rfl)).trans hk;have hlt2:w.heap.size+1<W2.heap.size:=(ak.1 hl1).1;have hz2:∀k,Z2 k→k≠w.heap.size∧k≠w.heap.size+1:=fun k h=>⟨fun e=>(hz k (hst.old k (by omega) h)).1 e,fun e=>(hz k (hst.old k (by omega) h)).2 e⟩
   refine⟨_,run_beginRound hl1 (by rw[I1]),?_⟩;obtain⟨W3,hW3⟩:∃W3,W2.putObj (w.heap.size+1) (.loop { rec .ready none with state:=.busy })=W3:=⟨_,rfl⟩
   have hl3:W3.heap[w.heap.size+1]?=some (.loop { rec .ready none with state:=.busy }):=by rw[←hW3];exact World.putObj_heap_same hlt2
   have hk3:W3.heap[w.heap.size]?=some (.deferred (some [])):=by rw[←hW3];exact(dr (by omega)).trans qq
   have hp3:∀k,k≠w.heap.size+1→W3.heap[k]?=W2.heap[k]?:=fun k h=>by rw[←hW3];exact dr (by omega)
   have h3s:W3.heap.size=W2.heap.size:=by rw[←hW3];simp
   have h3o:W3.os=W2.os∧W3.tape=W2.tape∧W3.output=W2.output:=by rw[←hW3];exact⟨rfl,rfl,rfl⟩
   have agb:∀k,Z2 k→w0.heap.size≤k:=fun k h=>by
    by_cases hc:k<W.heap.size
    ·exact Zt k (hst.old k hc h)
    ·have:=hb0.size;omega
   have ZO:=hA _ _ _ _ _ W3 ha (fun k h=>hp3 k (hz2 k h).2);simp only[hW3];refine wpIn_mono (ac5 _ m pre x a' Z2 W3 ZO agb hpre) ?_
   have fin:∀(jump:Option Code) (Z4:Nat→Prop) (W4:ar),Step Z2 Z4 W3 W4→
     (Instr.endRound (w.heap.size+1) jump).run P W4=.ok (aF jump.isNone) (W4.putObj (w.heap.size+1) (.loop (rec (if jump.isNone then .ready else .done) jump)))∧
     (∀k,Z4 k→k≠w.heap.size∧k≠w.heap.size+1)∧
     (∀k,Z4 k→(W4.putObj (w.heap.size+1) (.loop (rec (if jump.isNone then .ready else .done) jump))).heap[k]?=W4.heap[k]?)∧
     (W4.putObj (w.heap.size+1) (.loop (rec (if jump.isNone then .ready else .done) jump))).heap[w.heap.size+1]?=some (.loop (rec (if jump.isNone then .ready else .done) jump))∧
     (W4.putObj (w.heap.size+1) (.loop (rec (if jump.isNone then .ready else .done) jump))).heap[w.heap.size]?=some (.deferred (some []))∧
     Step (fun k=>Z k∨k=w.heap.size∨k=w.heap.size+1) (fun k=>Z4 k∨k=w.heap.size∨k=w.heap.size+1) W (W4.putObj (w.heap.size+1) (.loop (rec (if jump.isNone then .ready else .done) jump))):=fun jump Z4 W4 h4=>by
    have hl4:W4.heap[w.heap.size+1]?=some (.loop { rec .ready none with state:=.busy }):=(h4.same _ (by omega) (fun h=>(hz2 _ h).2 rfl)).trans hl3;have hk4:W4.heap[w.heap.size]?=some (.deferred (some [])):=(h4.same _ (by omega) (fun h=>(hz2 _ h).1 rfl)).trans hk3;have UX:∀k,Z4 k→k≠w.heap.size∧k≠w.heap.size+1:=fun k h=>⟨fun e=>(hz2 k (h4.old k (by omega) h)).1 e,fun e=>(hz2 k (h4.old k (by omega) h)).2 e⟩
    have:=run_endRound (P:=P) jump hl4;have h4s:=h4.size;have o6:=hst.size
    refine⟨by rw[I1] at this ⊢;exact this,UX,fun k h=>dr (fun e=>(UX k h).2 (by omega)),World.putObj_heap_same (ak.1 hl4).1,(dr (by omega)).trans hk4,
     ⟨h4.os.trans (h3o.1.trans hst.os),h4.tape.trans (h3o.2.1.trans hst.tape),h4.output.trans (h3o.2.2.trans hst.output),by simp;omega,?_,?_⟩⟩
    ·rintro k hk (h|h)
     ·exact cF (hst.old k hk (h4.old k (by omega) h))
     ·exact .inr h
    ·intro k hk hn;have uf:¬Z k:=fun h=>hn (cF h);have wa:k≠w.heap.size+1:=fun h=>hn (.inr (.inr h));have hn3:¬Z2 k:=fun h=>uf (hst.old k hk h);exact(dr (by omega)).trans ((h4.same k (by omega) hn3).trans ((hp3 k wa).trans (hst.same k hk uf)))
   rintro e a4 W4 hp;cases e with
   |normal=>
    obtain⟨Z4,h4,Zo⟩:=hp;obtain⟨hr,UX,Ei,Zl,hk5,hstep⟩:=fin none Z4 W4 h4;exact⟨_,_,hr,_,hstep,cF ⟨rfl,Z4,rfl,UX,hI _ _ _ _ Zo Ei,Zl,hk5⟩⟩
   |ret=>
    obtain⟨Z4,h4,Zo⟩:=hp;obtain⟨hr,UX,Ei,Zl,hk5,hstep⟩:=fin (some .ret) Z4 W4 h4;exact⟨_,_,hr,_,hstep,.inr ⟨rfl,Z4,.ret,rfl,UX,hIx _ _ _ _ _ Zo Ei,Zl,hk5⟩⟩
   |exit id=>
    obtain⟨Z4,h4,Zo⟩:=hp;obtain⟨hr,UX,Ei,Zl,hk5,hstep⟩:=fin (some (.exit id)) Z4 W4 h4;exact⟨_,_,hr,_,hstep,.inr ⟨rfl,Z4,.exit id,rfl,UX,hIx _ _ _ _ _ Zo Ei,Zl,hk5⟩⟩
   |goto t=>
    obtain⟨Z4,h4,Zo⟩:=hp;obtain⟨hr,UX,Ei,Zl,hk5,hstep⟩:=fin (some (.goto t)) Z4 W4 h4;exact⟨_,_,hr,_,hstep,.inr ⟨rfl,Z4,.goto t,rfl,UX,hIx _ _ _ _ _ Zo Ei,Zl,hk5⟩⟩
   |panic ch=>exact hp.elim
   |outgrown=>exact hp.elim
  ·exact⟨X,rfl,fun k h=>by have:=(hX k h).2;omega,hI1,ZU,hK1⟩
  ·have key:∀(Z:Nat→Prop) (W2:ar) (o:Obj),Step (fun k=>X k∨k=w.heap.size∨k=w.heap.size+1) (fun k=>Z k∨k=w.heap.size∨k=w.heap.size+1) W1 W2→Step X Z w (W2.putObj (w.heap.size+1) o):=fun Z W2 o h=>
    ⟨h.os.trans uz.os,h.tape.trans uz.tape,h.output.trans uz.output,by have:=h.size;simp;omega,fun k hk hz=>by
     rcases h.old k (by omega) (cF hz) with h|h|h
     ·exact h
     ·omega
     ·omega,fun k hk hn=>(dr (by omega)).trans ((h.same k (by omega) (fun h=>by
     rcases h with h|h|h
     ·exact hn h
     ·omega
     ·omega)).trans (uz.block k hk))⟩
   rintro e W2 ⟨⟨v,rfl⟩,Y,hstep,(⟨Z,rfl,hz,hi,hl,hk⟩|⟨pre,Z,c,rfl,hz,hi,hl,hk⟩)⟩
   ·exact⟨none,_,by have:=run_endLoop (P:=P) hl (by rw[I1];simp);rw[I1] at this;exact this,hdone _ Z _ (ax _) (fun h=>(hz _ h).1 rfl) (key Z W2 _ hstep) (hI _ _ _ _ hi (fun k h=>dr (fun e=>(hz k h).2 (by omega)))) ((dr (by omega)).trans hk)⟩
   ·exact⟨some c,_,by have:=run_endLoop (P:=P) hl (by rw[I1];simp);rw[I1] at this;exact this,BP _ c pre Z _ (ax _) (fun h=>(hz _ h).1 rfl) (key Z W2 _ hstep) (hIx _ _ _ _ _ hi (fun k h=>dr (fun e=>(hz k h).2 (by omega)))) ((dr (by omega)).trans hk)⟩
end Go.Lag
namespace Go.Proofs.YtffladgmkiimjaaGreatDoor
open Go.RowKit Go.Lag
attribute [local go_sem] Oper.semAt_some
def dT.put(a:dT)(iX:Nat)(n:Int):dT:=
 match iX with
 |0=>{ a with m0:=n }
 |1=>{ a with m1:=n }
 |_=>{ a with m2:=n }
def fh(lo hi:Int):List Int:=(List.range (hi+1-lo).toNat).map fun(i:Nat)=>lo+i
def leaves(ok:dT→Bool):List Mn→Nat→dT→List dT
 |[],_,a=>if ok a then[a] else[]
 |m::r,iX,a=>(fh m.lo m.hi).flatMap fun n=>leaves ok r (iX+1) (a.put iX n)
def jh(b:BB)(ss:List Int)(ms:List Mk)(a:dT):Bool:=Am b (b.bM+a.used) (bE ss) ms
def aX(b:BB)(ml:List Mn)(ss:List Int)(ms:List Mk):List dT:=(fh b.ll b.lm).flatMap fun n=>leaves (jh b ss ms) ml 0 ⟨n,0,0,0⟩
theorem dT.MI{a:dT}(h:a.Ok)(iX:Nat){n:Int}(h1:0≤n)(h2:n≤99):(a.put iX n).Ok:=by
 obtain⟨p,q,r,s⟩:=h
 match iX with
 |0=>exact⟨p,⟨h1,h2⟩,r,s⟩
 |1=>exact⟨p,q,⟨h1,h2⟩,s⟩
 |k+2=>exact⟨p,q,r,⟨h1,h2⟩⟩
theorem dT.Vw(a:dT)(iX:Nat)(n z:Int):(a.put iX z).put iX n=a.put iX n:=by
 match iX with
 |0=>rfl
 |1=>rfl
 |k+2=>rfl
theorem Hv{X X':Nat→Prop}{W W':ar}(h:Step X X' W W'){l i:Nat}(u:aj)(hl:W.heap.size≤l):Step X X' W (W'.setCell ⟨l,i,none⟩ u):=
 ⟨h.os,h.tape,h.output,by simpa using h.size,h.old,fun k hk hx=>(bj _ _ _ _ (by show k≠l;omega)).trans (h.same k hk hx)⟩
structure Gb(b:BB)(men sent marks:aj)(w0:ar)(bk yk nk l:Nat)(X:Nat→Prop)(W:ar):Prop where
 below:az w0.heap.size w0 W
 m8:W.heap[bk]?=some (au (b.cells men sent marks) 119 (0,0))
 hyk:W.heap[yk]?=some (au #[.func (.yield l) #[] #[]] 159 (0,0))
 hnk:W.heap[nk]?=some (au #[.func (.func 169) #[] #[pv bk 0,pv yk 0,pv nk 0]] 181 (0,0))
 xb:¬X bk
 xy:¬X yk
 xn:¬X nk
 ge:∀k,X k→w0.heap.size≤k
theorem Gb.step{b:BB}{men sent marks:aj}{w0:ar}{bk yk nk l:Nat}{X X2:Nat→Prop}{W W':ar}(h:Gb b men sent marks w0 bk yk nk l X W)(hs:Step X X2 W W'):Gb b men sent marks w0 bk yk nk l X2 W':=by
 have l1:=(ak.1 h.m8).1;have l2:=(ak.1 h.hyk).1;have l3:=(ak.1 h.hnk).1;refine⟨h.below.trans (hs.below h.below.size fun k hk hx=>?_),(hs.same _ l1 h.xb).trans h.m8,(hs.same _ l2 h.xy).trans h.hyk,(hs.same _ l3 h.xn).trans h.hnk,fun hx=>h.xb (hs.old _ l1 hx),fun hx=>h.xy (hs.old _ l2 hx),fun hx=>h.xn (hs.old _ l3 hx),fun k hx=>?_⟩
 ·have:=h.ge k hx;omega
 ·by_cases hk:k<W.heap.size
  ·exact h.ge k (hs.old k hk hx)
  ·have:=h.below.size;omega
theorem aR{w:ar}{v:aj}{n:Nat}{xs:List aj}(h:Reads w v n xs):∃p cap,v=.slice p n cap∧n≤4294967296:=by
 rcases h with⟨rfl,rfl,_⟩|⟨g,off,cap,rfl,h,_⟩
 ·exact⟨_,_,rfl,by omega⟩
 ·exact⟨_,_,rfl,h.1⟩
def Us{α:Type}(P:aI)(l:Nat)(encs:α→Array aj)(n0:Nat)(all:List α)(J Jx:List α→(Nat→Prop)→ar→Prop):Prop:=
 ∀m pre x X1 W1,J pre X1 W1→(∀k,X1 k→n0≤k)→pre++[x] <+: all→YieldAt Fence.wide m P l (encs x) W1 fun e W'=>∃X2,Step X1 X2 W1 W'∧
   ((e=aC (aF true)∧J (pre++[x]) X2 W')∨(e=aC (aF false)∧Jx (pre++[x]) X2 W'))
abbrev QZ(a:dT):Array Value:=#[aO a.cells]
def Pq(J Jx:List dT→(Nat→Prop)→ar→Prop)(X:Nat→Prop)(W:ar)(pre ys:List dT)(e:Ending)(W':ar):Prop:=
 ∃X2,Step X X2 W W'∧((e=aC (aF true)∧J (pre++ys) X2 W')∨(e=aC (aF false)∧∃q,Jx q X2 W'))
theorem Qi(b:BB)(men sent marks:aj)(ml:List Mn)(ss:List Int)(ms:List Mk)(w0:ar)(hB:cI b men sent marks ml ss ms w0)(bk yk nk l:Nat)(all:List dT)(J Jx:List dT→(Nat→Prop)→ar→Prop)(hJ:Lag.Abides J)(U7:Lag.Ch J)
  (hY:Us aq l QZ w0.heap.size all J Jx) (a:dT) (ha:a.Ok) (pre:List dT) (X:Nat→Prop) (W:ar) (hE:Gb b men sent marks w0 bk yk nk l X W) (hj:J pre X W) (hp:pre++leaves (jh b ss ms) [] ml.length a <+: all) :
  bm aq 169 #[aO a.cells,ah ag ml.length,pv bk 0,pv yk 0,pv nk 0] W (Pq J Jx X W pre (leaves (jh b ss ms) [] ml.length a)):=by
 have hx:=U7 _ _ _ hj;have b1:az W.heap.size W (W.alloc (au a.cells 134)):=(aw _ _).alloc (ax _) _;have U8:=hE.step (Step.of_below b1);have hB1:=hB.below U8.below;obtain⟨x0,x1,x2,x3,x4,x5,x6,x7,x8,x9,nX,nW,oU,oh,oP⟩:=bN U8.m8;have y0:=aH U8.hyk 0 _ rfl;obtain⟨p,cap,rfl,hlen⟩:=aR hB.rm;have hk:(W.alloc (au a.cells 134)).heap[W.heap.size]?=some (au a.cells 134 (0,0)):=ay W _;have z0:=aH hk 0 _ rfl;have z1:=aH hk 1 _ rfl;have z2:=aH hk 2 _ rfl;have z3:=aH hk 3 _ rfl;have hmk:=MX b hB.ok (.slice p ml.length cap) sent marks ss hB.l9 ms hB.kE a ha _ hB1.rs hB1.rk;have HM:=ai hmk;have HE:=ai U8;have HB:=ai hB1;have HY:=ai hY;have HJ:=ai hJ;clear hmk hE hB U8 hB1 hk hY hJ;generalize hL:ml.length=L at *;clear hL;have hlv:leaves (jh b ss ms) [] L a=if jh b ss ms a then[a] else[]:=rfl
 rw[hlv] at hp ⊢;clear hlv
 have HJ2:Hid (∀W',az (W.alloc (au a.cells 134)).heap.size (W.alloc (au a.cells 134)) W'→J pre X W'∧Step X X W W'):=ai fun W' hb'=>by
  have zX:az W.heap.size W W':=b1.trans (hb'.mono b1.size);exact⟨HJ.out _ _ _ _ hj fun k hk=>zX.block k (hx k hk),Step.of_below zX⟩
 clear hj hx HJ
 by_cases cN:jh b ss ms a=true
 ·have HK:=ai (ay W (au a.cells 134));have hmb:Am b (b.bM+a.used) (bE ss) ms=true:=cN;rw[hmb] at HM;rw[if_pos cN] at hp ⊢;have HP:=ai hp;clear hp hmb cN b1;refine Ba (n:=0).1 (callsIn_of_wp Tryz.func169 rfl trivial ?_ rfl);simp only[Tryz.ntmps169,jw,gi,od,CH,CG,jV,jU,jx,ia,j4,ik]
  gi_wp2_with (first
   |(refine⟨trivial,rfl,?_⟩;gi_at_call 143;rw[Ba];refine HM.out.mono ?_;clear HM;rintro e W1 ⟨rfl,hb1⟩
     have RF:=HE.out.step (Step.of_below hb1);have u0:=aH RF.hyk 0 _ rfl;have qq:=(hb1.block W.heap.size (by simp)).trans HK.out;have v0:=aH qq 0 _ rfl;have v1:=aH qq 1 _ rfl;have v2:=aH qq 2 _ rfl;have v3:=aH qq 3 _ rfl;have hjs:=HJ2.out W1 hb1;have HS:=ai hjs.2;obtain⟨fn,tmps,assign,body,hy,hR⟩:=HY.out 0 pre a X W1 hjs.1 RF.ge HP.out
     clear RF qq hjs hb1)
   |(refine⟨rfl,?_⟩;refine hR.mono ?_;clear hR;rintro e W2 ⟨X2,hs2,(⟨rfl,Tt⟩|⟨rfl,Tt⟩)⟩))
  ·go_ret
   exact⟨X2,HS.out.trans hs2,cF ⟨rfl,Tt⟩⟩
  ·go_ret
   exact⟨X2,HS.out.trans hs2,.inr ⟨rfl,_,Tt⟩⟩
 ·have HK:=ai (ay W (au a.cells 134));have hmb:Am b (b.bM+a.used) (bE ss) ms=false:=by simpa [jh] using cN
  rw[hmb] at HM;rw[if_neg cN] at hp ⊢;clear hp hmb cN b1 HY;refine Ba (n:=0).1 (callsIn_of_wp Tryz.func169 rfl trivial ?_ rfl);simp only[Tryz.ntmps169,jw,gi,od,CH,CG,jV,jU,jx,ia,j4,ik]
  gi_wp2_with (first
   |(refine⟨trivial,rfl,?_⟩;gi_at_call 143;rw[Ba];refine HM.out.mono ?_;clear HM;rintro e W1 ⟨rfl,hb1⟩
     have RF:=HE.out.step (Step.of_below hb1);have u0:=aH RF.hyk 0 _ rfl;have qq:=(hb1.block W.heap.size (by simp)).trans HK.out;have v0:=aH qq 0 _ rfl;have v1:=aH qq 1 _ rfl;have v2:=aH qq 2 _ rfl;have v3:=aH qq 3 _ rfl;have hjs:=HJ2.out W1 hb1;have HS:=ai hjs
     clear RF qq hjs hb1))
  refine⟨fun _ _=>trivial,?_⟩
  gi_wp2
  go_ret
  exact⟨X,HS.out.2,cF ⟨rfl,by rw[List.append_nil];exact HS.out.1⟩⟩
theorem Pj{w:ar}{B:Nat}{a:dT}(iX:Nat)(hm:iX<3)(n:Int)(h:w.heap[B]?=some (au a.cells 134 (0,0))):(w.setCell ⟨B,1+iX,none⟩ (ah ag n)).heap[B]?=some (au (a.put iX n).cells 134 (0,0)):=by
 obtain⟨hk,h⟩:=ak.1 h
 match iX,hm with
 |0,_=>simp[j3,hk,h,Bh,dT.put]
 |1,_=>simp[j3,hk,h,Bh,dT.put]
 |2,_=>simp[j3,hk,h,Bh,dT.put]
theorem DJ{lo hi:Int}{k:Nat}(h:lo+k≤hi):k<(fh lo hi).length∧∀h',(fh lo hi)[k]'h'=lo+k:=by
 constructor
 ·simp[fh];omega
 ·intro h';simp[fh]
theorem G2{α β:Type}(l:List α)(f:α→List β){k:Nat}(h:k<l.length):(l.take (k+1)).flatMap f=(l.take k).flatMap f++f l[k]:=by
 rw[List.take_succ_eq_append_getElem h,List.flatMap_append];simp
theorem Qh(b:BB)(men sent marks:aj)(ml:List Mn)(ss:List Int)(ms:List Mk)(w0:ar)(hB:cI b men sent marks ml ss ms w0)(bk yk nk l:Nat)(all:List dT)(J Jx:List dT→(Nat→Prop)→ar→Prop)(hJ:Lag.Abides J)(U7:Lag.Ch J)
  (fr:List Mn) (m:Mn) (r:List Mn) (Tq:ml=fr++m::r)
  (ih:∀(a:dT),a.Ok→∀(pre:List dT) (X:Nat→Prop) (W:ar),Gb b men sent marks w0 bk yk nk l X W→J pre X W→pre++leaves (jh b ss ms) r (fr.length+1) a <+: all→
   bm aq 169 #[aO a.cells,ah ag ((fr.length+1:Nat):Int),pv bk 0,pv yk 0,pv nk 0] W (Pq J Jx X W pre (leaves (jh b ss ms) r (fr.length+1) a)))
  (a:dT) (ha:a.Ok) (pre:List dT) (X:Nat→Prop) (W:ar) (hE:Gb b men sent marks w0 bk yk nk l X W) (hj:J pre X W) (hp:pre++leaves (jh b ss ms) (m::r) fr.length a <+: all) :
  bm aq 169 #[aO a.cells,ah ag fr.length,pv bk 0,pv yk 0,pv nk 0] W (Pq J Jx X W pre (leaves (jh b ss ms) (m::r) fr.length a)):=by
 have hx:=U7 _ _ _ hj;have hlen:fr.length<ml.length:=by rw[Tq];simp
 have XR:fr.length<3:=by have:=hB.gX.len;omega
 have hmk:ml[fr.length]=m:=by simp[Tq]
 have Zi:=hB.gX.mem m (by rw[Tq];simp)
 obtain⟨g,off,cap,rfl,aiF,hg,hcm⟩:∃g off cap,men=.slice (some ⟨g,off,none⟩) ml.length cap∧(ml.length≤4294967296∧ml.length≤cap)∧g<w0.heap.size∧∀j u,(dS ml)[j]?=some u→w0.cell? ⟨g,off+j,none⟩=some u:=by
  rcases hB.rm with⟨_,h,_⟩|h
  ·omega
  ·exact h
 have hcell:=CV hcm fr.length hlen;rw[hmk] at hcell
 have HC:Hid (∀W',az w0.heap.size w0 W'→W'.cell? ⟨g,off+fr.length*3+1,none⟩=some (ah ag m.lo)∧W'.cell? ⟨g,off+fr.length*3+2,none⟩=some (ah ag m.hi)):=
  ai fun W' hb=>⟨(hb.cell (p:=⟨g,_,none⟩) hg).trans hcell.2.1,(hb.cell (p:=⟨g,_,none⟩) hg).trans hcell.2.2⟩
 clear hcell hcm;have hl3:=hB.gX.len;have HB:=ai hB;have HI:=ai ih;have HP:=ai hp;have HX:=ai hx;have HJ:=ai hJ;have hlv:leaves (jh b ss ms) (m::r) fr.length a=(fh m.lo m.hi).flatMap fun n=>leaves (jh b ss ms) r (fr.length+1) (a.put fr.length n):=rfl;have b1:az W.heap.size W (W.alloc (au a.cells 134)):=(aw _ _).alloc (ax _) _;have U8:=hE.step (Step.of_below b1);have hj1:J pre X (W.alloc (au a.cells 134)):=hJ _ _ _ _ hj fun k hk=>b1.block k (hx k hk);obtain⟨x0,x1,x2,x3,x4,x5,x6,x7,x8,x9,nX,nW,oU,oh,oP⟩:=bN U8.m8;obtain⟨c1,c2⟩:=HC.out _ U8.below;have hXa:¬X W.heap.size:=fun h=>absurd (hx _ h) (by omega);have HE1:=ai U8;have HE:=ai hE;have HJ1:=ai hj1;have HXa:=ai hXa;clear hB ih hp hx hJ hE U8 hj1 hXa hj;clear hmk Tq;generalize ml.length=L at *;generalize fr.length=iX at *;generalize jh b ss ms=ok at *;refine Ba (n:=0).1 (callsIn_of_wp Tryz.func169 rfl trivial ?_ rfl);simp only[Tryz.ntmps169,jw,gi,od,CH,CG,jV,jU,jx,ia,j4,ik];have i1:(iX:Int)<(L:Int):=by omega
 have i2:(0:Int)≤(iX:Int):=by omega
 have i3:((iX:Int)==(L:Int))=false:=by simp;omega
 gi_wp2
 have w1:IntKind.i64.wrap (iX+1)=((iX+1:Nat):Int):=by rw[eY _ (by omega) (by omega)];omega
 gi_loopw [8] (fun v wr=>∃(k:Nat) (X1:Nat→Prop),v=ah ag (m.lo+k)∧m.lo+k≤m.hi+1∧Step X X1 W wr∧¬X1 W.heap.size∧J (pre++((fh m.lo m.hi).take k).flatMap fun n=>leaves ok r (iX+1) (a.put iX n)) X1 wr∧
   ∃a':dT,(∀n,a'.put iX n=a.put iX n)∧wr.heap[W.heap.size]?=some (au a'.cells 134 (0,0))) (fun v _=>(m.hi+1-intOf v).toNat)
 case atStart=>exact⟨0,X,by simp,by omega,Step.of_below b1,HXa.out,by simpa using HJ1.out,a,fun _=>rfl,ay W _⟩
 case round=>
  obtain⟨k,X1,rfl,hk,hst,wP,hjk,a',ha',hab⟩:=hrel;have TG:=HE.out.step hst;have Om:Step X X1 W (wr.setCell ⟨W.heap.size,1+iX,none⟩ (ah ag (m.lo+k))):=Hv hst _ (ax _);have RF:=HE.out.step Om;have KX:=Pj iX XR (m.lo+k) hab;have hcc:a'.put iX (m.lo+k)=a.put iX (m.lo+k):=ha' _;rw[hcc] at KX
  have Tt:J (pre++((fh m.lo m.hi).take k).flatMap fun n=>leaves ok r (iX+1) (a.put iX n)) X1 (wr.setCell ⟨W.heap.size,1+iX,none⟩ (ah ag (m.lo+k))):=
   HJ.out _ _ _ _ hjk fun i hi=>bj _ _ _ _ (by rintro rfl;exact wP hi)
  have hx1:=U7 _ _ _ hjk;clear x0 x1 x2 x3 x4 x5 x6 x7 x8 x9 nX nW oU oh oP c1 c2;obtain⟨x0,x1,x2,x3,x4,x5,x6,x7,x8,x9,nX,nW,oU,oh,oP⟩:=bN TG.m8;obtain⟨c1,c2⟩:=HC.out _ TG.below;have v0:=aH hab 0 _ rfl;have v1:=aH hab 1 _ rfl;have v2:=aH hab 2 _ rfl;have v3:=aH hab 3 _ rfl
  have vm:∃u,wr.cell? ⟨W.heap.size,1+iX,none⟩=some u:=by
   match iX,XR with
   |0,_=>exact⟨_,v1⟩
   |1,_=>exact⟨_,v2⟩
   |2,_=>exact⟨_,v3⟩
  obtain⟨um,vm⟩:=vm;have vf:=cM hab (1+iX);have z0:=aH KX 0 _ rfl;have z1:=aH KX 1 _ rfl;have z2:=aH KX 2 _ rfl;have z3:=aH KX 3 _ rfl;have n0:=aH RF.hnk 0 _ rfl;have hap:=dT.MI ha iX (n:=m.lo+k) (by omega);have w2:IntKind.i64.wrap (m.lo+(k:Int)+1)=m.lo+((k+1:Nat):Int):=by rw[eY _ (by omega) (by omega)];omega
  by_cases hlt:m.lo+(k:Int)≤m.hi
  ·obtain⟨xI,XT⟩:=DJ hlt;have QD:=G2 (fh m.lo m.hi) (fun n=>leaves ok r (iX+1) (a.put iX n)) xI;rw[XT xI] at QD
   have hih:=HI.out (a.put iX (m.lo+k)) (hap (by omega)) _ X1 _ RF Tt (by
    rw[List.append_assoc,←QD];have:=HP.out;rw[hlv] at this;refine List.IsPrefix.trans ?_ this;rw[List.prefix_append_right_inj];refine⟨((fh m.lo m.hi).drop (k+1)).flatMap fun n=>leaves ok r (iX+1) (a.put iX n),?_⟩
    rw[←List.flatMap_append,List.take_append_drop])
   have HPP:Hid (∀n,(a.put iX (m.lo+k)).put iX n=a.put iX n):=ai fun n=>dT.Vw _ _ _ _;have HIH:=ai hih;have U9:=ai Om;have HF:=ai QD;have JG:=ai hlv;have HA:=ai KX;have HX1:=ai hx1;have HN:=ai RF;have HXX:=ai wP;clear hih Om QD XT Tt RF TG hab KX hst hjk wP ha' hcc hlv hx1 hap;generalize a.put iX (m.lo+k)=a2 at *
   gi_wp2_with (first
    |(refine⟨trivial,rfl,?_⟩;gi_at_call 169;rw[Ba];refine HIH.out.mono ?_;clear HIH;rintro e W3 ⟨X3,hs3,(⟨rfl,QC⟩|⟨rfl,q,QC⟩)⟩))
   ·go_roundw
    case rel=>
     have adb:W.heap.size<(wr.setCell ⟨W.heap.size,1+iX,none⟩ (ah ag (m.lo+k))).heap.size:=(ak.1 HA.out).1;refine⟨k+1,X3,by simp,by omega,U9.out.trans hs3,fun h=>HXX.out (hs3.old _ adb h),?_,a2,HPP.out,(hs3.same _ adb HXX.out).trans HA.out⟩;rw[HF.out,←List.append_assoc];exact QC
    case measure=>simp[intOf];omega
   ·go_ret
    exact⟨X3,U9.out.trans hs3,.inr ⟨rfl,q,QC⟩⟩
  ·have hmh:m.hi=m.lo+k-1:=by omega
   have hall:(fh m.lo m.hi).take k=fh m.lo m.hi:=cS (by simp[fh];omega);rw[hall] at hjk;have HJK:=ai hjk;have HS:=ai hst;have JG:=ai hlv;clear Om Tt RF TG hab KX hst hjk wP ha' hcc hlv hx1 hap hall
   gi_wp2
   go_ret
   rw[JG.out];exact⟨X1,HS.out,cF ⟨rfl,HJK.out⟩⟩
theorem SI(b:BB)(men sent marks:aj)(ml:List Mn)(ss:List Int)(ms:List Mk)(w0:ar)(hB:cI b men sent marks ml ss ms w0)(bk yk nk l:Nat)(all:List dT)(J Jx:List dT→(Nat→Prop)→ar→Prop)(hJ:Lag.Abides J)(U7:Lag.Ch J)
  (hY:Us aq l QZ w0.heap.size all J Jx):∀(r fr:List Mn),ml=fr++r→∀(a:dT),a.Ok→∀(pre:List dT) (X:Nat→Prop) (W:ar),Gb b men sent marks w0 bk yk nk l X W→J pre X W→pre++leaves (jh b ss ms) r fr.length a <+: all→
   bm aq 169 #[aO a.cells,ah ag fr.length,pv bk 0,pv yk 0,pv nk 0] W (Pq J Jx X W pre (leaves (jh b ss ms) r fr.length a)):=by
 intro r
 induction r with
 |nil=>
  rintro fr rfl a ha pre X W hE hj hp;have e:fr++([]:List Mn)=fr:=List.append_nil _;have:=Qi b men sent marks (fr++[]) ss ms w0 hB bk yk nk l all J Jx hJ U7 hY a ha pre X W hE hj (by rw[e];exact hp);rw[e] at this;exact this
 |cons m r ih=>
  intro fr Tq a ha pre X W hE hj hp;refine Qh b men sent marks ml ss ms w0 hB bk yk nk l all J Jx hJ U7 fr m r Tq (fun a ha pre X W hE hj hp=>?_) a ha pre X W hE hj hp;have:=ih (fr++[m]) (by rw[Tq];simp) a ha pre X W hE hj (by simpa using hp);simpa using this
theorem ou(W:ar)(A B C:Array aj)(tA tB tC:aZ) :
  (((W.alloc (au A tA)).alloc (au B tB)).alloc (au C tC)).heap[W.heap.size]?=some (au A tA (0,0))∧
  (((W.alloc (au A tA)).alloc (au B tB)).alloc (au C tC)).heap[W.heap.size+1]?=some (au B tB (0,0))∧
  (((W.alloc (au A tA)).alloc (au B tB)).alloc (au C tC)).heap[W.heap.size+2]?=some (au C tC (0,0)):=by
 refine⟨?_,?_,?_⟩
 ·exact(aS _ _ _ (by simp;omega)).trans ((aS _ _ _ (by simp)).trans (ay W _))
 ·refine(aS _ _ _ (by simp)).trans ?_;have:=ay (W.alloc (au A tA)) (au B tB);rwa [dW] at this
 ·have:=ay ((W.alloc (au A tA)).alloc (au B tB)) (au C tC);rwa [dW,dW] at this
theorem Hb(b:BB)(men sent marks:aj)(ml:List Mn)(ss:List Int)(ms:List Mk)(w0:ar)(hB:cI b men sent marks ml ss ms w0):aaB aq 117 #[aO (b.cells men sent marks)] QZ (aX b ml ss ms) w0:=by
 intro l J Jx X W hb hX hJ hJx U7 agC hY h0;show bm aq 117 #[aO (b.cells men sent marks),.func (.yield l) #[] #[]] W _;have cN:=hB.ok;have RB:=cN.leak;have Wy:=ou W (b.cells men sent marks) #[.func (.yield l) #[] #[]] #[.func (.func 169) #[] #[pv W.heap.size 0,pv (W.heap.size+1) 0,pv (W.heap.size+1+1) 0]] 119 159 181;have hb3:∀A B C,az W.heap.size W (((W.alloc A).alloc B).alloc C):=fun A B C=>(((aw _ W).alloc (ax _) _).alloc (by simp) _).alloc (by simp;omega) _
 have hE0:Gb b men sent marks w0 W.heap.size (W.heap.size+1) (W.heap.size+1+1) l X (((W.alloc (au (b.cells men sent marks) 119)).alloc (au #[.func (.yield l) #[] #[]] 159)).alloc (au #[.func (.func 169) #[] #[pv W.heap.size 0,pv (W.heap.size+1) 0,pv (W.heap.size+1+1) 0]] 181)):=
  ⟨hb.trans ((hb3 _ _ _).mono hb.size),Wy.1,Wy.2.1,Wy.2.2,fun h=>by have:=(hX _ h).2;omega,fun h=>by have:=(hX _ h).2;omega,fun h=>by have:=(hX _ h).2;omega,fun k h=>(hX k h).1⟩
 have hS0:=Step.of_below (X:=X) (hb3 (au (b.cells men sent marks) 119) (au #[.func (.yield l) #[] #[]] 159) (au #[.func (.func 169) #[] #[pv W.heap.size 0,pv (W.heap.size+1) 0,pv (W.heap.size+1+1) 0]] 181));have hJ0:=hJ _ _ _ (((W.alloc (au (b.cells men sent marks) 119)).alloc (au #[.func (.yield l) #[] #[]] 159)).alloc (au #[.func (.func 169) #[] #[pv W.heap.size 0,pv (W.heap.size+1) 0,pv (W.heap.size+1+1) 0]] 181)) h0 fun k hk=>(hb3 _ _ _).block k (hX k hk).2
 have hN:=fun(X1:Nat→Prop) (W1:ar) (n:Int) (h1:0≤n) (h2:n≤99) (pre:List dT) (hE:Gb b men sent marks w0 W.heap.size (W.heap.size+1) (W.heap.size+1+1) l X1 W1) (hj:J pre X1 W1) (hp:pre++leaves (jh b ss ms) ml 0 ⟨n,0,0,0⟩ <+: aX b ml ss ms)=>
  SI b men sent marks ml ss ms w0 hB W.heap.size (W.heap.size+1) (W.heap.size+1+1) l (aX b ml ss ms) J Jx hJ U7 hY ml [] rfl ⟨n,0,0,0⟩ ⟨⟨h1,by show n≤400;omega⟩,by simp,by simp,by simp⟩ pre X1 W1 hE hj hp
 have HN:=ai hN;have HE0:=ai hE0;have Ym:=ai hS0;have HJ0:=ai hJ0;clear Wy hb3 hE0 hS0 hJ0 hN hY hJ hJx U7 agC h0 hX hb hB;generalize uw:jh b ss ms=ok at *;have hall:aX b ml ss ms=(fh b.ll b.lm).flatMap fun n=>leaves ok ml 0 ⟨n,0,0,0⟩:=by rw[←uw];rfl
 rw[hall] at HN ⊢;clear hall uw
 go_enter Tryz.func117,Tryz.ntmps117
 go_wp2
 go_loopw [5] (fun v wr=>∃(k:Nat) (X1:Nat→Prop),v=ah ag (b.ll+k)∧b.ll+k≤b.lm+1∧Step X X1 W wr∧Gb b men sent marks w0 W.heap.size (W.heap.size+1) (W.heap.size+1+1) l X1 wr∧J (((fh b.ll b.lm).take k).flatMap fun n=>leaves ok ml 0 ⟨n,0,0,0⟩) X1 wr) (fun v _=>(b.lm+1-intOf v).toNat)
 case atStart=>exact⟨0,X,by simp,by omega,Ym.out,HE0.out,by simpa using HJ0.out⟩
 case round=>
  obtain⟨k,X1,rfl,hk,hst,TG,hjk⟩:=hrel;obtain⟨x0,x1,x2,x3,x4,x5,x6,x7,x8,x9,nX,nW,oU,oh,oP⟩:=bN TG.m8;have n0:=aH TG.hnk 0 _ rfl;have w2:IntKind.i64.wrap (b.ll+(k:Int)+1)=b.ll+((k+1:Nat):Int):=by rw[eY _ (by omega) (by omega)];omega
  by_cases hlt:b.ll+(k:Int)≤b.lm
  ·obtain⟨xI,XT⟩:=DJ hlt;have QD:=G2 (fh b.ll b.lm) (fun n=>leaves ok ml 0 ⟨n,0,0,0⟩) xI;rw[XT xI] at QD
   have hih:=HN.out X1 wr (b.ll+k) (by omega) (by omega) _ TG hjk (by
    rw[←QD];refine⟨((fh b.ll b.lm).drop (k+1)).flatMap fun n=>leaves ok ml 0 ⟨n,0,0,0⟩,?_⟩
    rw[←List.flatMap_append,List.take_append_drop])
   have HIH:=ai hih;have U9:=ai hst;have HF:=ai QD;have HEr:=ai TG;clear hih QD XT TG hst hjk
   go_wp2_with (first
    |(go_at_call 169;refine HIH.out.mono ?_;clear HIH;rintro e W3 ⟨X3,hs3,(⟨rfl,QC⟩|⟨rfl,q,QC⟩)⟩))
   ·go_roundw
    case rel=>
     refine⟨k+1,X3,by simp,by omega,U9.out.trans hs3,HEr.out.step hs3,?_⟩;rw[HF.out];exact QC
    case measure=>simp[intOf];omega
   ·(try simp only[Exit.inBlock,Exit.then]);refine bn (results_none rfl _ _ _) rfl ?_
    exact⟨⟨_,rfl⟩,X3,U9.out.trans hs3,.inr ⟨q,QC⟩⟩
  ·have hall:(fh b.ll b.lm).take k=fh b.ll b.lm:=cS (by simp[fh];omega);rw[hall] at hjk;have HJK:=ai hjk;have HS:=ai hst;clear TG hst hjk hall;go_wp2
   go_end0
   exact⟨⟨_,rfl⟩,X1,HS.out,cF HJK.out⟩
end Go.Proofs.YtffladgmkiimjaaGreatDoor
namespace Go.Lag
open Go Go.RowKit
def Whole(A:aj→Prop)(e:aZ)(w:ar)(v:aj):Prop:=∀g,v.ownBlock=some g→∃cur,w.heap[g]?=some (.cells cur e (0,0))∧∀u∈cur,A u
theorem FE{A:aj→Prop}{zs:Array aj}(h:∀u∈zs,A u)(n:Nat):∀u∈fH zs n,A u:=by
 intro u hu;unfold fH at hu;rw[Array.mem_map] at hu;obtain⟨i,hi,rfl⟩:=hu;have hlt:i<n*zs.size:=by simpa using hi
 have jJ:0<zs.size:=by
  rcases Nat.eq_zero_or_pos zs.size with h0|h0
  ·rw[h0] at hlt;simp at hlt
  ·exact h0
 have hk:=Nat.mod_lt i jJ;rw[getElem!_pos zs _ hk];exact h _ (Array.getElem_mem hk)
theorem Jr{P:aI}(w:ar)(A:aj→Prop)(base:Nat)(t ty e:aZ)(i:TypeInfo)(z:aj)(size rO:Nat)(ht:P.underlying t=some (.slice e))(hi:P.info? e=some i)(hz:i.zero=some z)
  (hsize:i.size=size) (hby:i.bytes=rO) (hzs:z.cells.size=size) (hsz:0<size)
  (v:aj) (n:Nat) (xs:List aj) (hown:w.ownsRow base e size v n xs)
  (a:Addr) (m c:Nat) (news:List aj) (hl:news.length=m*size) (hnews:∀j u,news[j]?=some u→w.cell? (a.add j)=some u) (h1:∀u∈news,u.oneCell'=true)
  (h63:n+m≤maxLen) (hbytes:(n+m)*rO≤140737488355328) (hm:0<m)
  (hAz:∀u∈z.cells,A u) (hAn:∀u∈news,A u) (hAv:Whole A e w v) {v':aj} {w':ar}
  (hr:(Builtin.append_ #[t,t] ty #[v,.slice (some a) m c]).run P w=.ok v' w'):Whole A e w' v':=by
 subst hsize;subst hby;have Y7:n+m≤9223372036854775807:=by simp only[maxLen] at h63;omega
 have hAx:∀u∈xs,A u:=by
  intro u hu;rcases hown.2 with⟨rfl,rfl⟩|⟨g,cap,cur,rfl,_,hg,_,_,_,Ti⟩
  ·have hx:xs=[]:=List.eq_nil_of_length_eq_zero (by simpa using hown.1);rw[hx] at hu;cases hu
  ·obtain⟨cur',Fo,hA⟩:=hAv g rfl;rw[hg] at Fo;obtain rfl:cur=cur':=by simpa using Fo
   rw[←Ti] at hu;exact hA u (by simpa using fp hu)
 have fin:∀(l:List aj) (k:Nat),(∀u∈l,A u)→∀u∈l.toArray++fH z.cells k,A u:=by
  intro l k hl u hu;rw[Array.mem_append] at hu;rcases hu with h|h
  ·exact hl u (by simpa using h)
  ·exact FE hAz k u h
 rcases hown.2 with⟨rfl,rfl⟩|⟨g,cap,cur,rfl,hbg,hg,FM,hcm,hcs,Ti⟩
 ·have hr2:=run_append_nil (P:=P) w t ty e i z ht hi hz a m c news hl hnews hm (by omega) (by have hb:=hbytes;simp only[cJ] at hb;omega);rw[hr2] at hr;cases hr;intro g hg;obtain rfl:w.heap.size=g:=by simpa [jc] using hg
  exact⟨_,heap_alloc_new w.drew _,fin _ _ hAn⟩
 ·by_cases hroom:n+m≤cap
  ·have Tv:n*i.size+news.length≤cur.size:=by rw[hl,hcs,←Nat.add_mul];exact Nat.mul_le_mul_right _ hroom
   have hr2:=run_append_room (P:=P) w t ty e i ht hi g n cap cur hg a m c news hl hnews h1 hroom Tv;rw[hr2] at hr;cases hr;intro g' Fo;obtain rfl:g=g':=by simpa [jc] using Fo
   refine⟨_,setRow_heap w g cur _ e _ hg,?_⟩;obtain⟨cur',hg2,hA⟩:=hAv g rfl;rw[hg] at hg2;obtain rfl:cur=cur':=by simpa using hg2
   intro u hu;simp only[List.mem_toArray,bG] at hu;rcases hu with(h|h)|h
   ·exact hA u (by simpa using fp h)
   ·exact hAn u h
   ·exact hA u (by simpa using List.mem_of_mem_drop h)
  ·have holds:∀j u,xs[j]?=some u→w.cell? ((⟨g,0,none⟩:Addr).add j)=some u:=hown.cells (g:=g) rfl;have hr2:=run_append_grow (P:=P) w t ty e i z ht hi hz ⟨g,0,none⟩ n cap xs hown.1 holds a m c news hl hnews (by omega) (by omega) (growslice_fits (by omega) hbytes);rw[hr2] at hr;cases hr;intro g' Fo;obtain rfl:w.heap.size=g':=by simpa [jc] using Fo
   refine⟨_,heap_alloc_new w.drew _,?_⟩;rw[show xs.toArray++news.toArray=(xs++news).toArray by simp];refine fin _ _ fun u hu=>?_;rw[bG] at hu;exact hu.elim (hAx u) (hAn u)
section
variable{F:Fence}{nF:Nat}{P:aI}(w:ar)
theorem uu{ops:Array cy}{rest:List cy}{o:cy}{a:je}{Q:Exit→je→ar→Prop}(hgd:o.guard=none)(s x:bH)(t:aZ)
  (ho:o.op=.call { callee:=.builtin .append,args:=#[s,x],argTypes:=#[t,t] })
  (A:aj→Prop) (base:Nat) (e:aZ) (i:TypeInfo) (z:aj) (size rO:Nat) (ht:P.underlying t=some (.slice e)) (hi:P.info? e=some i) (hz:i.zero=some z)
  (hsize:i.size=size) (hby:i.bytes=rO) (hzs:z.cells.size=size) (hsz:0<size)
  (v:aj) (n:Nat) (xs:List aj) (hs:a.eval s=v) (hown:w.ownsRow base e size v n xs)
  (ad:Addr) (m c:Nat) (news:List aj) (hx:a.eval x=.slice (some ad) m c) (hl:news.length=m*size) (hnews:∀j u,news[j]?=some u→w.cell? (ad.add j)=some u) (h1:∀u∈news,u.oneCell'=true)
  (h63:n+m≤maxLen) (hbytes:(n+m)*rO≤140737488355328) (hbase:base≤w.heap.size) (hm:0<m) (hAz:∀u∈z.cells,A u) (hAn:∀u∈news,A u) (hAv:Whole A e w v)
  (h:∀v' w',w'.ownsRow base e size v' (n+m) (xs++news)→w.grownBy w' v.ownBlock→Whole A e w' v'→(v'.ownBlock=v.ownBlock∨v'.ownBlock=some w.heap.size)→wpListIn F nF P ops Q rest (a.put o.dst v') w') :
  wpListIn F nF P ops Q (o::rest) a w:=by
 refine wpListIn_plain hgd fun K hK=>?_;obtain⟨v',w',hr,h2,h3,h4,h5⟩:=run_append_own_at (P:=P) w base t o.type e i z size rO ht hi hz hsize hby hzs hsz v n xs hown ad m c news hl hnews h1 h63 hbytes hbase;have h6:=Jr w A base t o.type e i z size rO ht hi hz hsize hby hzs hsz v n xs hown ad m c news hl hnews h1 h63 hbytes hm hAz hAn hAv hr;unfold Oper.wpIn;refine⟨by simp[Oper.about,ho,resolve,Target.leads,Sem.run_pure],?_⟩;rw[Oper.semAt_plain F _ _ (by rw[ho];intro c hc';cases hc')];simp[bY,ho,resolve,invoke,builtin,hs,hx,hr,Result.andThen];exact hK _ _ (h v' w' h2 h3 h6 h5)
end
end Go.Lag
namespace Go.Proofs.YtffladgmkiimjaaGreatDoor
open Go.RowKit Go.Lag
attribute [local go_sem] Oper.semAt_some
theorem OQ:(Tryz.prog.info? 134).map (fun i=>(i.zero,i.size,i.bytes))=some (some (.agg #[.int .i64 0,.int .i64 0,.int .i64 0,.int .i64 0]),4,32):=by kernel_rfl
def Uz(u:aj):Prop:=∃n,u=.int .i64 n
def gP(W:ar)(base:Nat)(v:aj)(l:List dT):Prop:=W.ownsRow base 134 4 v l.length (rowOf l)∧Whole Uz 134 W v
theorem S9(x:dT):∀u∈x.cells.toList,Uz u:=by
 intro u hu;simp at hu;rcases hu with rfl|rfl|rfl|rfl<;>exact⟨_,rfl⟩
def aaS(n0 B:Nat)(pre:List dT)(X:Nat→Prop)(W:ar):Prop:=
 ∃v,Boxed W B 120 v∧gP W n0 v pre∧∀k,X k↔(k=B∨some k=v.ownBlock)
theorem fY{W W':ar}{base:Nat}{e:aZ}{size:Nat}{v:aj}{k:Nat}{xs:List aj}(h:W.ownsRow base e size v k xs)(hs:∀g,v.ownBlock=some g→W'.heap[g]?=W.heap[g]?):W'.ownsRow base e size v k xs:=by
 refine⟨h.1,?_⟩;rcases h.2 with hn|⟨g,cap,cur,rfl,hb,Er,rest⟩
 ·exact .inl hn
 ·exact .inr ⟨g,cap,cur,rfl,hb,(hs g rfl).trans Er,rest⟩
theorem gP.at_{W W':ar}{base:Nat}{v:aj}{l:List dT}(h:gP W base v l)(hs:∀g,v.ownBlock=some g→W'.heap[g]?=W.heap[g]?):gP W' base v l:=
 ⟨fY h.1 hs,fun g hg=>by obtain⟨cur,h1,h2⟩:=h.2 g hg;exact⟨cur,(hs g hg).trans h1,h2⟩⟩
theorem gP.base{W:ar}{base base':Nat}{v:aj}{l:List dT}(h:gP W base v l)(hb:base'≤base):gP W base' v l:=by
 refine⟨⟨h.1.1,?_⟩,h.2⟩;rcases h.1.2 with hn|⟨g,cap,cur,rfl,hb',rest⟩
 ·exact .inl hn
 ·exact .inr ⟨g,cap,cur,rfl,aN hb hb',rest⟩
theorem gP.reads{W:ar}{base:Nat}{v:aj}{l:List dT}(h:gP W base v l)(hl:l.length≤4294967296):Reads W v l.length (rowOf l):=Reads.iW h.1 hl (by rw[h.1.1])
theorem LP(n0 B:Nat):Lag.Abides (aaS n0 B):=by
 rintro pre X W W' ⟨v,h1,h2,h3⟩ hs;exact⟨v,(hs B ((h3 B).2 (.inl rfl))).trans h1,h2.at_ fun g hg=>hs g ((h3 g).2 (.inr hg.symm)),h3⟩
theorem E9(n0 B:Nat):Lag.Ch (aaS n0 B):=by
 rintro pre X W ⟨v,h1,h2,h3⟩ k hk;rcases(h3 k).1 hk with rfl|h
 ·exact h1.lt
 ·exact(h2.1.lt k h.symm).2
def aeh(n0 B:Nat)(bk:aj)(pre:List dT)(x:dT)(a:je)(X:Nat→Prop)(W:ar):Prop:=
 ∃k v,a=⟨#[.slice none 0 0,.func (.func 117) #[bk] #[],pv B 0,af,.slice none 0 0,pv k 0,.func (.func 117) #[bk] #[],.agg x.cells,af,af,af,af,af],[]⟩∧
  Boxed W B 120 v∧gP W n0 v pre∧W.heap[k]?=some (.cells x.cells 134 (0,0))∧(∀j,X j↔(j=B∨j=k∨some j=v.ownBlock))
theorem LQ(n0 B:Nat)(bk:aj)(pre:List dT)(x:dT):Lag.Abides (aeh n0 B bk pre x):=by
 rintro a X W W' ⟨k,v,h0,h1,h2,h3,h4⟩ hs;exact⟨k,v,h0,(hs B ((h4 B).2 (.inl rfl))).trans h1,h2.at_ fun g hg=>hs g ((h4 g).2 (.inr (.inr hg.symm))),(hs k ((h4 k).2 (.inr (.inl rfl)))).trans h3,h4⟩
theorem tO{n D:Nat}(W:ar)(o:Obj)(h:n≤D):az n W (W.putObj D o):=⟨rfl,rfl,rfl,by simp,fun k hk=>dr (by omega)⟩
theorem DC(l:List dT)(x:dT):rowOf (l++[x])=rowOf l++x.cells.toList:=by simp[rowOf]
theorem F6(bk:aj)(all:List dT)(hall:all.length≤1000)(w0:ar)(hseq:aaB aq 117 #[bk] QZ all w0)(w:ar)(hb:az w0.heap.size w0 w) :
  bm aq 168 #[.slice none 0 0,.func (.func 117) #[bk] #[]] w fun e w'=>∃v,e=.returned v∧gP w' w.heap.size v all∧az w.heap.size w w':=by
 obtain⟨i0,hi,hz0,hz1,hz2⟩:=info_parts OQ;have HSQ:=ai hseq;clear hseq;refine Ba (n:=0).1 (callsIn_of_wp_marks Tryz.func168 rfl trivial ?_ rfl);simp only[Tryz.ntmps168,jw,gi,od,CH,CG,jV,jU,jx,ia,j4,ik]
 gi_wp2
 have hb1:az w.heap.size w (w.alloc (.cells #[.slice none 0 0] 120)):=(aw _ _).alloc (ax _) _;have hs0:=hb.size
 refine rQ (gf:=117) (la:=#[bk]) rfl (enters_of Tryz.func117 (by kernel_rfl) rfl) (encs:=QZ) (all:=all) (w0:=w0) HSQ.out (hb.trans (hb1.mono hs0)) (fun _=>rfl) (aaS w.heap.size w.heap.size) (fun _ _ _ _=>False) (LP _ _) (fun _ _ _ _ _ h _=>h) (E9 _ _) (fun _ _ _ _ h=>h.elim)
  (fun k=>k=w.heap.size) (by rintro k rfl;exact⟨hs0,by simp⟩) ⟨_,Boxed.new _ _ _,⟨World.ownsRow_nil _ _ _ _,fun g hg=>by simp[jc] at hg⟩,fun k=>by simp[jc]⟩ (aeh w.heap.size w.heap.size bk) (LQ _ _ _) ?rassign ?rbody ?rdone ?rstop
 case rassign=>
  intro l m pre x X1 W K hI hge hpre hK;obtain⟨v,h1,h2,h3⟩:=hI;have hX1:=E9 _ _ _ _ _ ⟨v,h1,h2,h3⟩;have HK:=ai hK;clear hK
  gi_wp2
  refine HK.out _ (fun j=>X1 j∨j=W.heap.size) _ ⟨rfl,rfl,rfl,by simp,?_,?_⟩ ⟨W.heap.size,v,rfl,h1.alloc _,h2.at_ (fun g hg=>aS _ _ _ (h2.1.lt g hg).2),ay _ _,fun j=>?_⟩
  ·rintro j hj (h|rfl)
   ·exact h
   ·omega
  ·intro j hj _;exact aS _ _ _ hj
  ·show(X1 j∨j=W.heap.size)↔_;rw[h3];constructor
   ·rintro((h|h)|h)
    ·exact .inl h
    ·exact .inr (.inr h)
    ·exact .inr (.inl h)
   ·rintro(h|h|h)
    ·exact .inl (.inl h)
    ·exact .inr h
    ·exact .inl (.inr h)
 case rbody=>
  rintro l m pre x a' X1 W ⟨k,v,rfl,h1,h2,h3,h4⟩ hge hpre;have hlen:pre.length+1≤1000:=by have:=hpre.length_le;simp at this;omega
  have c0:=aH h3 0 _ rfl;have c1:=aH h3 1 _ rfl;have c2:=aH h3 2 _ rfl;have c3:=aH h3 3 _ rfl;have b0:=h1.cell;have hw1:w.heap.size≤W.heap.size:=Nat.le_of_lt h1.lt
  have HQ2:Hid (∀u∈(Value.agg #[.int .i64 0,.int .i64 0,.int .i64 0,.int .i64 0]).cells,Uz u):=ai fun u hu=>by
   have h:u∈#[Value.int .i64 0,.int .i64 0,.int .i64 0,.int .i64 0]:=hu;simp at h;exact⟨0,h⟩
  have HQ3:Hid (Whole Uz 134 (W.alloc (.cells x.cells 134)) v):=ai fun g hg=>by
   obtain⟨cur,q1,q2⟩:=h2.2 g hg;exact⟨cur,(aS _ _ _ (h2.1.lt g hg).2).trans q1,q2⟩
  have Xp:Hid (∀(j:Nat) (u:aj),x.cells.toList[j]?=some u→(W.alloc (.cells x.cells 134)).cell? ((⟨W.heap.size,0,none⟩:Addr).add j)=some u):=ai fun j u hj=>by
   have:=ay W (.cells x.cells 134);have h5:=aH this j u (by simpa using hj);have e:(⟨W.heap.size,0,none⟩:Addr).add j=⟨W.heap.size,j,none⟩:=by cases j<;>simp[Addr.add]
   rw[e];exact h5
  gi_wp2_with (first
   |(gi_at_builtin;refine uu _ rfl _ _ 120 rfl Uz w.heap.size 134 i0 (.agg #[.int .i64 0,.int .i64 0,.int .i64 0,.int .i64 0]) 4 32 Tryz.underlying120 hi hz0 hz1 hz2 rfl (by decide) _ _ _ rfl (h2.1.alloc _) ⟨W.heap.size,0,none⟩ 1 1 x.cells.toList rfl rfl Xp.out (by simp[cu]) (by unfold maxLen;omega) (by omega) (by simp;omega) (by decide) HQ2.out (S9 x) HQ3.out ?_
     intro v' w1 hown' hgrow hwh hat;obtain⟨p1,p2,p3,p4,p5⟩:=Boxed.appended h1 (by decide) h2.1 hw1 (ax _) hown' hgrow;obtain⟨g',cap',rfl⟩:=ownsRow_succ hown';have f1:=p1.cell;have f2:=p1.frozen;have HO:=ai (And.intro p2 (And.intro p3 (And.intro hgrow (And.intro hat hwh))));have acE:=p1.not_row (by decide) hown';have HPN:=ai acE
     clear p2 p3 p4 p5 hown' hgrow hwh hat acE))
  obtain⟨p2,p3,hgrow,hat,hwh⟩:=HO.out;refine⟨fun j=>j=w.heap.size∨some j=jc (.slice (some ⟨g',0,none⟩) (pre.length+1) cap'),⟨hgrow.os,hgrow.tape,hgrow.output,by have:=hgrow.size;simp at this ⊢;omega,?_,?_⟩,_,p2,?_,fun j=>Iff.rfl⟩
  ·rintro j hj (rfl|h)
   ·exact(h4 _).2 (.inl rfl)
   ·rcases hat with e|e
    ·rw[e] at h;exact(h4 _).2 (.inr (.inr h))
    ·rw[e] at h;simp at h;omega
  ·intro j hj hx;have hx2:=fun h=>hx ((h4 j).2 h);refine(bj _ _ _ _ (fun e=>hx2 (.inl e))).trans ((hgrow.block j (by simp;omega) (fun e=>hx2 (.inr (.inr e)))).trans (aS _ _ _ hj))
  ·refine⟨by rw[DC,pJ];exact p3,fun g hg=>?_⟩;obtain⟨cur,q1,q2⟩:=hwh g hg;exact⟨cur,(bj _ _ _ _ (fun e=>HPN.out ((congrArg some (show w.heap.size=g from e.symm)).trans hg.symm))).trans q1,q2⟩
 case rdone=>
  rintro D X2 W hD hXD hst ⟨v,h1,h2,h3⟩ hK;have b0:=h1.cell;have uz:az w.heap.size w W:=hb1.trans (hst.below (by simp) (by rintro k hk rfl;omega));have HB:=ai uz;have HO:=ai h2;have HK:=ai hK;clear uz h2 h3 hst
  have Qw:(∃n cap,v=.slice none n cap)∨∃g n cap,v=.slice (some g) n cap:=by
   rcases HO.out.1.2 with⟨rfl,_⟩|⟨g,cap,cur,rfl,_⟩
   ·exact .inl ⟨_,_,rfl⟩
   ·exact .inr ⟨_,_,_,rfl⟩
  rcases Qw with⟨n,cap,rfl⟩|⟨g,n,cap,rfl⟩
  all_goals
   gi_wp2
   refine⟨by simp,.inl ⟨_,_,rfl,run_takeDeferred HK.out,?_⟩⟩;exact⟨_,bU rfl _ _ _,_,rfl,HO.out.at_ (fun g hg=>dr (fun e=>by obtain⟨cur,q1,_⟩:=HO.out.2 g hg;have hk:=HK.out;rw[←e,q1] at hk;cases hk)),HB.out.trans (tO _ _ (by simp at hD;omega))⟩
 case rstop=>
  rintro D c pre X2 W _ _ _ h;exact h.elim
theorem DI(lo hi:Int):(fh lo hi).length=(hi+1-lo).toNat:=by simp[fh]
theorem EA{α β:Type}(f:α→List β)(n:Nat):∀(l:List α),(∀x∈l,(f x).length≤n)→(l.flatMap f).length≤l.length*n
 |[],_=>by simp
 |x::l,h=>by
  have h1:=h x (by simp);have h2:=EA f n l fun y hy=>h y (by simp[hy]);simp only[List.flatMap_cons,pJ,gi,Nat.add_mul];omega
theorem Ee(ok:dT→Bool):∀(r:List Mn) (iX:Nat) (a:dT),(∀m∈r,m.hi-m.lo<3)→(leaves ok r iX a).length≤3 ^ r.length
 |[],iX,a,_=>by simp only[leaves];split<;>simp
 |m::r,iX,a,h=>by
  have h1:=EA (fun n=>leaves ok r (iX+1) (a.put iX n)) (3 ^ r.length) (fh m.lo m.hi) fun n _=>Ee ok r (iX+1) _ fun m' hm=>h m' (by simp[hm]);have h2:=DI m.lo m.hi;have h3:=h m (by simp);have h4:(fh m.lo m.hi).length≤3:=by omega
  show((fh m.lo m.hi).flatMap _).length≤_;refine aN h1 ?_;rw[gi,Nat.pow_succ,Nat.mul_comm];exact Nat.mul_le_mul_left _ h4
theorem ju{b:BB}{ml:List Mn}(ss:List Int)(ms:List Mk)(hb:b.Ok)(hm:mR ml):(aX b ml ss ms).length≤81:=by
 have h1:=EA (fun n=>leaves (jh b ss ms) ml 0 ⟨n,0,0,0⟩) 27 (fh b.ll b.lm) fun n _=>by
  have h2:=Ee (jh b ss ms) ml 0 ⟨n,0,0,0⟩ fun m h=>(hm.mem m h).2.2.2.2;have h3:3 ^ ml.length≤3 ^ 3:=Nat.pow_le_pow_right (by omega) hm.len;omega
 have h2:=DI b.ll b.lm;have h3:=hb.leak;unfold aX;omega
theorem oI(b:BB)(men sent marks:aj)(ml:List Mn)(ss:List Int)(ms:List Mk)(w:ar)(hB:cI b men sent marks ml ss ms w) :
  bm aq 116 #[.func (.func 117) #[.agg (b.cells men sent marks)] #[]] w fun e w'=>∃v,e=.returned v∧gP w' w.heap.size v (aX b ml ss ms)∧az w.heap.size w w':=by
 have hl:=ju ss ms hB.ok hB.gX;have H:=ai (F6 (.agg (b.cells men sent marks)) (aX b ml ss ms) (by omega) w (Hb b men sent marks ml ss ms w hB) w (aw _ _));clear hB;generalize aX b ml ss ms=all at *
 go_enter Tryz.func116,Tryz.ntmps116
 go_wp2_with (go_at_call 168;refine H.out.mono ?_;rintro e w' ⟨v,rfl,ho,hb⟩;have HO:=ai ho;clear ho)
 go_ret
 exact⟨v,rfl,HO.out,hb⟩
theorem yG{fn:Func}{t:kr}(h:fn.results = #[.cell t 4]){tmps:Array aj}{w:ar}{B:Nat}{z:Bool}(hp:tmps.getD t af=pv B 0)(hc:w.cell? ⟨B,0,none⟩=some (.bool z)) :
  (results fn tmps).run aq w=.ok (.bool z) w:=by
 rw[aW] at hp;unfold results;rw[h];simp only[List.mapM_toArray,go_sem];go_simp
theorem JZ(b:BB)(men sent marks:aj)(ml:List Mn)(ss:List Int)(ms:List Mk)(w:ar)(hB:cI b men sent marks ml ss ms w) :
  bm aq 119 #[.agg (b.cells men sent marks)] w fun e w'=>e=.returned (.bool (decide (aX b ml ss ms≠[])))∧az w.heap.size w w':=by
 have HSQ:=ai (Hb b men sent marks ml ss ms w hB);clear hB;generalize aX b ml ss ms=all at *;refine Ba (n:=0).1 (callsIn_of_wp_marks Tryz.func119 rfl trivial ?_ rfl);simp only[Tryz.ntmps119,jw,gi,od,CH,CG,jV,jU,jx,ia,j4,ik]
 gi_wp2
 have hb1:az w.heap.size w ((w.alloc (.cells (b.cells men sent marks) 119)).alloc (.cells #[.bool false] 4)):=((aw _ _).alloc (ax _) _).alloc (by simp) _
 have TB:Boxed ((w.alloc (.cells (b.cells men sent marks) 119)).alloc (.cells #[.bool false] 4)) (w.heap.size+1) 4 (.bool false):=by
  have:=Boxed.new (w.alloc (.cells (b.cells men sent marks) 119)) 4 (.bool false);rwa [dW] at this
 refine rQ (gf:=117) (la:=#[.agg (b.cells men sent marks)]) rfl (enters_of Tryz.func117 (by kernel_rfl) rfl) (encs:=QZ) (all:=all) (w0:=w) HSQ.out hb1 (fun _=>rfl)
  (fun pre X W=>pre=[]∧Boxed W (w.heap.size+1) 4 (.bool false)∧∀k,X k↔k=w.heap.size+1) (fun c _ X W=>c=.ret∧all≠[]∧Boxed W (w.heap.size+1) 4 (.bool true)∧∀k,X k↔k=w.heap.size+1)
  (fun _ _ _ _ h hs=>⟨h.1,(hs _ ((h.2.2 _).2 rfl)).trans h.2.1,h.2.2⟩) (fun _ _ _ _ _ h hs=>⟨h.1,h.2.1,(hs _ ((h.2.2.2 _).2 rfl)).trans h.2.2.1,h.2.2.2⟩)
  (fun _ _ _ h k hk=>by rw[(h.2.2 k).1 hk];exact h.2.1.lt) (fun _ _ _ _ h k hk=>by rw[(h.2.2.2 k).1 hk];exact h.2.2.1.lt)
  (fun k=>k=w.heap.size+1) (by rintro k rfl;exact⟨by omega,by simp⟩) ⟨rfl,TB,fun _=>Iff.rfl⟩
  (fun pre x a' X W=>a'=⟨#[.agg (b.cells men sent marks),pv w.heap.size 0,pv (w.heap.size+1) 0,.agg (b.cells men sent marks),.func (.func 117) #[.agg (b.cells men sent marks)] #[],.agg x.cells],[]⟩∧Boxed W (w.heap.size+1) 4 (.bool false)∧∀k,X k↔k=w.heap.size+1)
  (fun _ _ _ _ _ _ h hs=>⟨h.1,(hs _ ((h.2.2 _).2 rfl)).trans h.2.1,h.2.2⟩) ?rassign ?rbody ?rdone ?rstop
 case rassign=>
  rintro l m pre x X1 W K ⟨rfl,h1,h2⟩ hge hpre hK;have HK:=ai hK;clear hK
  gi_wp2
  exact HK.out _ X1 _ (Step.refl _ _) ⟨by simp,h1,h2⟩
 case rbody=>
  rintro l m pre x a' X1 W ⟨rfl,h1,h2⟩ hge hpre;have c0:=h1.cell;have c1:=h1.frozen
  have hne:all≠[]:=by
   rintro rfl;have:=hpre.length_le;simp at this
  have HN:=ai hne;clear hne
  gi_wp2
  refine⟨X1,⟨rfl,rfl,rfl,by simp,fun _ _ h=>h,fun k hk hx=>bj _ _ _ _ (by rintro rfl;exact hx ((h2 _).2 rfl))⟩,rfl,HN.out,h1.set _,h2⟩
 case rdone=>
  rintro D X2 W hD hXD hst ⟨rfl,h1,h2⟩ hK;have b0:=h1.cell;have b1:=h1.frozen;have uz:az w.heap.size w W:=hb1.trans (hst.below (by simp;omega) (by rintro k hk rfl;omega));have HB:=ai uz;have HK:=ai hK;have HH:=ai h1;clear uz h2 hst hK
  gi_wp2
  simp only[dW] at hD;have hlt:=HH.out.lt;refine⟨by simp,.inl ⟨_,_,rfl,run_takeDeferred ((bj _ _ _ _ (by show D≠w.heap.size+1;omega)).trans HK.out),?_⟩⟩;refine⟨_,yG (B:=w.heap.size+1) (z:=false) rfl rfl ((World.cell?_of_block (dr (by show w.heap.size+1≠D;omega))).trans (HH.out.set _).cell),by simp,?_⟩;exact(HB.out.setCell (p:=⟨w.heap.size+1,0,none⟩) (by show _≤w.heap.size+1;omega) _).trans (tO _ _ (by omega))
 case rstop=>
  rintro D c pre X2 W hD hXD hst ⟨rfl,hne,h1,h2⟩ hK;have uz:az w.heap.size w W:=hb1.trans (hst.below (by simp;omega) (by rintro k hk rfl;omega));have HB:=ai uz;have HK:=ai hK;have HH:=ai h1;have HN:=ai hne;clear uz h2 hst hK hne h1
  gi_wp2
  simp only[dW] at hD;refine⟨by simp,.inl ⟨_,_,rfl,run_takeDeferred HK.out,?_⟩⟩;refine⟨_,yG (B:=w.heap.size+1) (z:=true) rfl rfl ((World.cell?_of_block (dr (by show w.heap.size+1≠D;omega))).trans HH.out.cell),by simp[HN.out],?_⟩;exact HB.out.trans (tO _ _ (by omega))
abbrev gW:Array Value:=#[.int .i64 0,.int .i64 0,.int .i64 0,.int .i64 0,.int .i64 0,.int .i64 0,.int .i64 0,.int .i64 0,.int .i64 0,.int .i64 0,.int .i64 0,.int .i64 0,.slice none 0 0,.slice none 0 0,.slice none 0 0,.slice none 0 0]
theorem cP{w:ar}{B i:Nat}{cs:Array aj}{t:aZ}(u:aj)(h:w.heap[B]?=some (.cells cs t (0,0))):(w.setCell ⟨B,i,none⟩ u).heap[B]?=some (.cells (cs.setIfInBounds i u) t (0,0)):=by
 obtain⟨hk,h⟩:=ak.1 h;simp[j3,hk,h,Bh]
theorem cV{w:ar}{B:Nat}{cs new:Array aj}{t:aZ}(h:w.heap[B]?=some (.cells cs t (0,0))):(w.setRow B new).heap[B]?=some (.cells new t (0,0)):=by
 obtain⟨hk,h⟩:=ak.1 h;simp[World.setRow,hk,h,Bh]
theorem setRow_other{w:ar}{B k:Nat}{new:Array aj}(h:k≠B):(w.setRow B new).heap[k]?=w.heap[k]?:=by
 simp[World.setRow,Array.getElem?_modify,Ne.symm h]
theorem setRow_size{w:ar}{B:Nat}{new:Array aj}:(w.setRow B new).heap.size=w.heap.size:=by simp[World.setRow]
theorem dA{n B:Nat}{a w:ar}{new:Array aj}(h:az n a w)(hB:n≤B):az n a (w.setRow B new):=
 ⟨h.os,h.tape,h.output,by rw[setRow_size];exact h.size,fun k hk=>(setRow_other (by omega)).trans (h.block k hk)⟩
theorem results_cell_tmp{fn:Func}{p q:kr}{ty:aZ}(h:fn.results = #[.cell p ty,.tmp q]){tmps:Array aj}{w:ar}{g:Nat}{cs:Array aj}
  (hp:tmps.getD p af=.pointer (some ⟨g,0,none⟩))
  (hl:(loadVar ty ⟨g,0,none⟩).run aq w=.ok (.agg cs) w) :
  (results fn tmps).run aq w=.ok (.tuple #[.agg cs,tmps.getD q af]) w:=by
 have hp':tmps[p]?.getD af=.pointer (some ⟨g,0,none⟩):=by simpa using hp
 simp[results,h,hp',asAddr,hl]
theorem yP(b:BB)(men sent marks:aj)(ml:List Mn)(ss:List Int)(ms:List Mk)(w:ar)(hL:Laid w)(hB:cI b men sent marks ml ss ms w)(hne:aX b ml ss ms≠[])
  (hown:∀W,az w.heap.size w W→bm aq 122 #[.agg (b.cells men sent marks)] W fun e W'=>e=.returned (.int .i64 0)∧az W.heap.size W W') :
  bm aq 103 #[.agg (b.cells men sent marks),.func (.func 122) #[] #[]] w fun e w'=>∃v,e=.returned (.tuple #[.agg (b.open men sent marks v),.int .i64 0])∧gP w' w.heap.size v (aX b ml ss ms)∧az w.heap.size w w':=by
 have ur:Hid (∀W,az w.heap.size w W→bm aq 71 #[.agg (b.cells men sent marks)] W fun e w'=>e=.returned (.int .i64 0)∧az W.heap.size W w'):=ai fun W hb=>eZ b men sent marks ml ss ms W (hL.below hb) (hB.below hb);have UH:Hid (∀W,az w.heap.size w W→bm aq 116 #[.func (.func 117) #[.agg (b.cells men sent marks)] #[]] W fun e w'=>∃v,e=.returned v∧gP w' W.heap.size v (aX b ml ss ms)∧az W.heap.size W w'):=ai fun W hb=>oI b men sent marks ml ss ms W (hB.below hb);have Fe:=ai hown;obtain⟨pm,cm,rfl,_⟩:=aR hB.rm;obtain⟨pn,cn,rfl,_⟩:=aR hB.rs;obtain⟨pk,ck,rfl,_⟩:=aR hB.rk;have jJ:0<(aX b ml ss ms).length:=List.length_pos_iff.2 hne;clear hL hB hne hown;generalize aX b ml ss ms=all at *;generalize ml.length=lm at *;generalize ss.length=ln at *;generalize ms.length=lk at *;have b0:az w.heap.size w ((w.alloc (.cells (b.cells (.slice pm lm cm) (.slice pn ln cn) (.slice pk lk ck)) 28)).alloc (.cells gW 122)):=((aw _ _).alloc (ax _) _).alloc (by simp) _;have HT:Hid (Two w (b.cells (.slice pm lm cm) (.slice pn ln cn) (.slice pk lk ck)) 28 gW 122 ((w.alloc (.cells (b.cells (.slice pm lm cm) (.slice pn ln cn) (.slice pk lk ck)) 28)).alloc (.cells gW 122))):=ai ⟨(Two.mk' w _ _ _ _).one,(Two.mk' w _ _ _ _).two,b0,by simp⟩;have JH:=ai b0;clear b0
 go_enter Tryz.func103,Tryz.ntmps103
 go_wp2_with (first
  |(refine wpList_load_row rfl 122 _ rfl _ rfl 122 _ (0,0) _ HL7.out iM rfl (by kernel_rfl) ?_)
  |(refine wpList_store_row rfl 122 _ _ rfl _ _ rfl rfl 122 _ N5.out (by kernel_rfl) rfl (by simp[cu]) ?_)
  |(go_at_call 71;refine(ur.out _ JH.out).mono ?_;clear ur;rintro e w1 ⟨rfl,hb1⟩
    have rN:=HT.out.next hb1;have oQ:=ai rN
    obtain⟨x0,x1,x2,x3,x4,x5,x6,x7,x8,x9,nX,nW,oU,oh,oP⟩:=bN rN.one
    clear rN hb1)
  |(go_at_call 122;refine(Fe.out _ (oQ.out.below.alloc (by have:=oQ.out.size;omega) _)).mono ?_;clear Fe;rintro e w2 ⟨rfl,hb2⟩
    have Cn:=(oQ.out.next ((aw _ _).alloc (ax _) (.cells (b.open (.slice pm lm cm) (.slice pn ln cn) (.slice pk lk ck) (.slice none 0 0)) 122))).next hb2;have F8:=ai Cn
    have hk2:=(hb2.block w1.heap.size (by simp)).trans (ay w1 _);have Ga:=ai hk2;have hs1:=oQ.out.size;have hs2:=hb2.size;obtain⟨y0,y1,y2,y3,y4,y5,y6,y7,y8,y9,Mp,Oc,Ob,Oa,JJ,Hq⟩:=js hk2
    clear Cn hk2 hb2)
  |(go_at_call 116;refine(UH.out _ F8.out.below).mono ?_;clear UH;rintro e w3 ⟨v,rfl,iY,hb3⟩
    have Fl:=F8.out.next hb3;have Ps:=ai Fl;have L8:=ai iY
    simp only[dW] at hs2;have hk3:=(hb3.block w1.heap.size (by omega)).trans Ga.out;have HK3:=ai hk3;have hs3:=hb3.size;clear y0 y1 y2 y3 y4 y5 y6 y7 y8 y9 Mp Oc Ob Oa JJ Hq;have Hq:=aH hk3 15 _ rfl;have f7:=cM hk3 15;have pw:=ai hb3
    obtain⟨gv,oK,rfl,Eo⟩:∃gv oK,v=.slice (some ⟨gv,0,none⟩) all.length oK∧w2.heap.size≤gv:=by
     rcases iY.1.2 with⟨_,h0⟩|⟨g,cap,cur,rfl,hg,_⟩
     ·omega
     ·exact⟨g,cap,rfl,hg⟩
    have HL7:Hid ((w3.setCell ⟨w1.heap.size,15,none⟩ (.slice (some ⟨gv,0,none⟩) all.length oK)).heap[w1.heap.size]?=some (.cells (b.open (.slice pm lm cm) (.slice pn ln cn) (.slice pk lk ck) (.slice (some ⟨gv,0,none⟩) all.length oK)) 122 (0,0))):=ai (cP _ hk3);have N5:Hid ((w3.setCell ⟨w1.heap.size,15,none⟩ (.slice (some ⟨gv,0,none⟩) all.length oK)).heap[w.heap.size+1]?=some (.cells gW 122 (0,0))):=ai ((bj _ _ _ _ (by show w.heap.size+1≠w1.heap.size;omega)).trans Fl.two)
    clear Fl hk3 hb3 iY))
 refine bn (results_cell_tmp (g:=w.heap.size+1) rfl rfl (run_loadVar_row _ _ 122 122 _ (0,0) _ (cV N5.out) iM rfl (by kernel_rfl))) rfl ⟨_,rfl,?_,?_⟩
 ·have hs1:=oQ.out.size;refine(L8.out.at_ fun g hg=>?_).base (by omega);have Er:g=gv:=by simpa [jc] using hg.symm
  subst Er;exact(setRow_other (by omega)).trans (bj _ _ _ _ (by show g≠w1.heap.size;omega))
 ·have hs1:=oQ.out.size;exact dA (Ps.out.below.setCell (p:=⟨w1.heap.size,15,none⟩) (by show _≤w1.heap.size;omega) _) (by omega)
end Go.Proofs.YtffladgmkiimjaaGreatDoor
namespace Go.Lag
open Go Go.RowKit Go.Proofs.YtffladgmkiimjaaGreatDoor
abbrev Es:=List (kr × En)
def VI(d:kr)(ch:List (Nat × Bool)):Bool:=ch.all fun p=>!Nat.beq p.1 d
section
variable(P:aI)(ops:Array cy)(base:List (kr × aj))(C:Cf)(n:Nat)
def qZ(es:Es):bH→aj
 |.const v=>v
 |.global g=>.pointer (some ⟨g,0,none⟩)
 |.func f=>.func (.func f) #[] #[]
 |.tmp t=>match lQ es t with
  |some e=>e.2.1
  |none=>(lQ base t).getD af
def Rx(es:Es)(ch:List (Nat × Bool)):bH→Bool
 |.tmp t=>match lQ es t with
  |some e=>subs e.1 ch
  |none=>(lQ base t).isSome
 |_=>true
def Rc(es:Es)(g:kr):List (Nat × Bool):=match lQ es g with|some e=>e.1|none=>[]
def QQ(es:Es)(o:cy):Option (List (Nat × Bool)):=
 match o.guard with
 |none=>some []
 |some (j,b)=>match dV ops j with
  |none=>none
  |some g=>match lQ C.lits g with
   |some b'=>bif b'==b then some (Rc es g) else none
   |none=>some ((g,b)::Rc es g)
def YU:bH→Option Bool
 |.tmp t=>lQ C.lits t
 |_=>none
def Od(c:bH)(b:Bool)(ch:List (Nat × Bool)):List (Nat × Bool):=
 match c with
 |.tmp t=>(t,b)::ch
 |_=>ch
def GI(es:Es)(i:Nat)(o:cy):Option (Next × List Nat):=look P (Ub C i) (bY (qZ base es) o)
def xh(es:Es)(i:Nat)(o:cy):aj × List Nat:=
 match lQ C.hs i with
 |some v=>(v,[])
 |none=>match o.op with
  |.pick c a b=>(match YU C c with
   |some true=>qZ base es a
   |some false=>qZ base es b
   |none=>bools (qZ base es c) (qZ base es a) (qZ base es b),[])
  |_=>match GI P base C es i o with
   |some (.value v,bl)=>(v,bl)
   |_=>(af,[])
def rE(es:Es)(i:Nat)(o:cy):En:=
 match QQ ops C es o with
 |none=>([],af,[])
 |some ch=>(ch,xh P base C es i o)
def MJ(es:Es)(i:Nat)(o:cy):Es:=
 match o.dst with
 |some d=>(d,rE P ops base C es i o)::es
 |none=>es
def FC:Nat→List cy→Es→Es
 |_,[],es=>es
 |i,o::l,es=>FC (i+1) l (MJ P ops base C es i o)
def jK(es:Es)(ch:List (Nat × Bool)):Bool:=ch.all fun p=>M7 (qZ base es (.tmp p.1)) p.2
def okO(es:Es)(i:Nat)(o:cy)(ch:List (Nat × Bool)):Bool:=
 match o.op with
 |.pick c a b=>(lQ C.hs i).isNone&&Rx base es ch c&&(match YU C c with
  |some true=>M7 (qZ base es c) true&&Rx base es ch a
  |some false=>M7 (qZ base es c) false&&Rx base es ch b
  |none=>isBool (qZ base es c)&&isBool (qZ base es a)&&isBool (qZ base es b)&&Rx base es (Od c true ch) a&&Rx base es (Od c false ch) b)
 |_=>(match ud o.op with
   |some l=>l.all (Rx base es ch)
   |none=>false) &&
  (match lQ C.hs i with
  |some _=>true
  |none=>match GI P base C es i o with
   |some (.value _,bl)=>(qm C i).isSome||bl.isEmpty
   |_=>false)
def TL(es:Es)(o:cy):Bool:=
 match o.guard with
 |none=>true
 |some (j,_)=>match dV ops j with
  |none=>false
  |some g=>((lQ es g).isSome||(lQ base g).isSome)&&(match lQ C.lits g with | some b'=>M7 (qZ base es (.tmp g)) b' | none=>true)
def Pc(es:Es)(e:En)(o:cy):Bool:=
 match o.dst with
 |none=>true
 |some d=>Nat.blt d n&&VI d e.1&&es.all fun p=>VI d p.2.1
def WY:Nat→List cy→Es→Bool
 |_,[],_=>true
 |i,o::l,es=>(TL ops base C es o&&(match QQ ops C es o with
  |none=>true
  |some ch=>okO P base C es i o ch)&&Pc n es (rE P ops base C es i o) o)&&WY (i+1) l (MJ P ops base C es i o)
def VS:Nat→List cy→Es→List (List Nat)
 |_,[],_=>[]
 |i,o::l,es=>(rE P ops base C es i o).2.2::VS (i+1) l (MJ P ops base C es i o)
def VQ:Nat→List cy→Es→List (List Nat)
 |_,[],_=>[]
 |i,o::l,es=>((rE P ops base C es i o).2.2.map fun _=>((qm C i).map (·.1)).getD 0)::VQ (i+1) l (MJ P ops base C es i o)
def zx(i k:Nat):List Oper:=(ops.toList.drop i).take k
def Lg(i j:Nat):Es:=FC P ops base C i (zx ops i (j-i)) []
def RH(G:Nat→Sem Next→ar→aj→Prop)(S:ar→Prop)(i:Nat):List (Nat × aj)→Prop
 |[]=>True
 |p::l=>(∀w,S w→jK base (Lg P ops base C i p.1) (rE P ops base C (Lg P ops base C i p.1) p.1 (opAt ops p.1)).1=true→G p.1 (bY (qZ base (Lg P ops base C i p.1)) (opAt ops p.1)) w p.2)∧RH G S i l
def abM(es:Es)(t:kr):Option Value:=
 match lQ es t with
 |some e=>match e.1 with|[]=>some e.2.1|_=>none
 |none=>none
structure LZ(a0:je)(es:Es)(a:je):Prop where
 size:a.tmps.size=n
 defers:a.defers=[]
 ent:∀t e,lQ es t=some e→a.eval (.tmp t)=Mj (jK base es e.1) e.2.1
 bas:∀t v,lQ es t=none→lQ base t=some v→a.eval (.tmp t)=v
 keep:∀t,lQ es t=none→a.eval (.tmp t)=a0.eval (.tmp t)
structure vZ(Wp:List Nat→je→ar→Prop)(Y:lM):Prop where
 go:∀i rest o a w R,ops[i]?=some o→cC o (jP ops a.tmps)=true→Y o a.eval w R→(∀v w',R v w'→Wp rest (a.put o.dst v) w')→Wp (i::rest) a w
 no:∀i rest o a w,ops[i]?=some o→¬cC o (jP ops a.tmps)=true→Wp rest (a.put o.dst af) w→Wp (i::rest) a w
def yI(dK:List (kr × aj))(i k:Nat)(outs:List (kr × aj)):Bool × List (List Nat) × List (Option aj):=
 (Nat.ble (i+k) ops.size&&(dK.all fun p=>(lQ (FC P ops base C i (zx ops i k) []) p.1).isNone)&&WY P ops base C n i (zx ops i k) [],VS P ops base C i (zx ops i k) [],outs.map fun p=>abM (FC P ops base C i (zx ops i k) []) p.1)
def yH(i k:Nat)(outs:List (kr × aj)):Bool × List (List Nat) × List (Option aj):=(true,VQ P ops base C i (zx ops i k) [],outs.map fun p=>some p.2)
end
section
variable{P:aI}{ops:Array cy}{base:List (kr × aj)}{C:Cf}{n:Nat}{S:ar→Prop}{a0:je}
theorem uY{β:Type}(d:Nat)(e:β)(es:List (Nat × β))(t:Nat):lQ ((d,e)::es) t=if d=t then some e else lQ es t:=by
 show(bif Nat.beq d t then some e else lQ es t)=_;cases hb:Nat.beq d t with
 |true=>rw[if_pos (gU hb)];rfl
 |false=>rw[if_neg (fun h=>by subst h;rw[Nat.beq_refl] at hb;cases hb)];rfl
theorem C5{es:Es}{t:kr}:qZ base es (.tmp t)=match lQ es t with|some e=>e.2.1|none=>(lQ base t).getD undef:=rfl
theorem JP{o:cy}{j g:Nat}{b:Bool}{a:je}(hgd:o.guard=some (j,b))(Mf:dV ops j=some g):cC o (jP ops a.tmps)=true↔a.eval (.tmp g)=.bool b:=by
 have hd:(ops[j]?).bind (·.dst)=some g:=Mf;have hy:jP ops a.tmps j=match a.tmps[g]? with|some (.bool x)=>some x|_=>none:=by unfold jP;rw[hd];rfl
 have he:a.eval (.tmp g)=(a.tmps[g]?).getD undef:=by unfold Act.eval;simp only[aW]
 unfold cC;rw[hgd,he];simp only[];rw[hy];cases h8:a.tmps[g]? with
 |none=>simp[af]
 |some v=>cases v<;>simp
theorem Eg{ev:bH→aj}{t:kr}{v:aj}:∀ {l:List (kr × aj)},gH ev l→lQ l t=some v→ev (.tmp t)=v
 |p::l,hb,h=>by
  obtain⟨d,x⟩:=p;rw[uY] at h;split at h
  ·rename_i hd;subst hd;cases h;exact hb.1
  ·exact Eg hb.2 h
theorem Xy{es:Es}{a:je}{ch:List (Nat × Bool)}(hi:LZ base n a0 es a)(hc:jK base es ch=true):∀ {x:bH},Rx base es ch x=true→a.eval x=qZ base es x
 |.const v,_=>rfl
 |.global g,_=>rfl
 |.func f,_=>rfl
 |.tmp t,h=>by
  unfold Rx at h;unfold qZ;simp only[] at h ⊢;cases hs:lQ es t with
  |none=>
   rw[hs] at h;simp only[] at h ⊢;cases hk:lQ base t with
   |none=>rw[hk] at h;cases h
   |some v=>exact hi.bas t v hs hk
  |some e=>
   rw[hs] at h;simp only[] at h ⊢;rw[hi.ent t e hs]
   have:jK base es e.1=true:=by
    unfold subs at h;unfold jK at *;rw[aU] at *;intro p hp;obtain⟨q,hq,h1⟩:=List.any_eq_true.1 (h p hp);rw[aD] at h1;have h2:=hc q hq;rw[gU h1.1,eq_of_beq h1.2];exact h2
   rw[this];rfl
theorem Lr{es:Es}{d:kr}{e:En}{ch:List (Nat × Bool)}(h:VI d ch=true):jK base ((d,e)::es) ch=jK base es ch:=by
 unfold jK;unfold VI at h;rw[aU] at h;rw[Bool.eq_iff_iff,aU,aU];refine forall_congr' fun p=>forall_congr' fun hp=>?_;have h1:=h p hp;have hne:d≠p.1:=fun e=>by rw[←e,Nat.beq_refl] at h1;cases h1
 rw[C5,C5,uY,if_neg hne]
theorem OO{es:Es}{a:je}{i:Nat}{o:cy}{v:aj}(hi:LZ base n a0 es a)(hd:Pc n es (rE P ops base C es i o) o=true)(hv:∀d,o.dst=some d→v=Mj (jK base es (rE P ops base C es i o).1) (rE P ops base C es i o).2.1) :
  LZ base n a0 (MJ P ops base C es i o) (a.put o.dst v):=by
 unfold MJ;unfold Pc at hd;cases hdd:o.dst with
 |none=>exact⟨hi.size,hi.defers,hi.ent,hi.bas,hi.keep⟩
 |some d=>
  rw[hdd] at hd;simp only[aD] at hd ⊢;obtain⟨⟨h1,h2⟩,h3⟩:=hd
  have hdn:d<n:=by
   unfold Nat.blt at h1;exact Nat.le_of_ble_eq_true h1
  rw[aU] at h3;refine⟨by rw[yJ,hi.size],by rw[put_defers,hi.defers],fun t e ht=>?_,fun t u ht hb=>?_,fun t ht=>?_⟩
  ·rw[uY] at ht;split at ht
   ·rename_i Zw;subst Zw;cases ht;rw[put_eq a d v (by rw[hi.size];exact hdn),Lr h2];exact hv d hdd
   ·rename_i Zw;rw[s5 _ _ _ _ (by simpa using Zw),hi.ent t e ht,Lr];exact h3 (t,e) (zg ht)
  ·rw[uY] at ht;split at ht
   ·cases ht
   ·rename_i Zw;rw[s5 _ _ _ _ (by simpa using Zw)];exact hi.bas t u ht hb
  ·rw[uY] at ht;split at ht
   ·cases ht
   ·rename_i Zw;rw[s5 _ _ _ _ (by simpa using Zw)];exact hi.keep t ht
theorem RH.get{G:Nat→Sem Next→ar→aj→Prop}{i:Nat}:∀ {l:List (Nat × aj)} {p:Nat × aj},RH P ops base C G S i l→p∈l→∀w,S w→jK base (Lg P ops base C i p.1) (rE P ops base C (Lg P ops base C i p.1) p.1 (opAt ops p.1)).1=true→G p.1 (bY (qZ base (Lg P ops base C i p.1)) (opAt ops p.1)) w p.2
 |q::l,p,h,hp=>by
  rcases List.mem_cons.1 hp with rfl|hp
  ·exact h.1
  ·exact RH.get h.2 hp
theorem Vi{es:Es}{i:Nat}{o:cy}(Qz:∀c a b,o.op≠.pick c a b)(Az:lQ C.hs i=none):xh P base C es i o=match GI P base C es i o with|some (.value v,bl)=>(v,bl)|_=>(af,[]):=by
 unfold xh;rw[Az];cases ho:o.op<;>first|exact absurd ho (Qz _ _ _)|rfl
theorem YI{es:Es}{i:Nat}{o:cy}{ch:List (Nat × Bool)}(Qz:∀c a b,o.op≠.pick c a b):okO P base C es i o ch=((match ud o.op with | some l=>l.all (Rx base es ch) | none=>false)&&(match lQ C.hs i with | some _=>true | none=>match GI P base C es i o with | some (.value _,bl)=>(qm C i).isSome||bl.isEmpty | _=>false)):=by
 unfold okO;cases ho:o.op<;>first|exact absurd ho (Qz _ _ _)|rfl
theorem Yt{Wp:List Nat→je→ar→Prop}{Y:lM}{G:Nat→Sem Next→ar→aj→Prop}{T:ar→ar→Prop}(L:vZ ops Wp Y)(U5:∀w w',S w→T w w'→S w')(QJ:∀w,T w w)
  {i:Nat} {o:cy} (ho:ops[i]?=some o) (hn:lQ C.hs i=none→∀s w v,s.run P w=.ok (.value v) w→G i s w v)
  (hY:∀ev w v R,S w→(∀w',S w'→G i (bY ev o) w' v)→(∀w',T w w'→R v w')→Y o ev w R) (hm:nE S C.mem)
  {es:Es} {a:je} {w:ar} {rest:List Nat} (hi:LZ base n a0 es a) (hS:S w) (h1:TL ops base C es o=true) (h2:∀ch,QQ ops C es o=some ch→okO P base C es i o ch=true) (h3:Pc n es (rE P ops base C es i o) o=true)
  (h4:∀b∈(rE P ops base C es i o).2.2,b=((qm C i).map (·.1)).getD 0) (h5:∀v,lQ C.hs i=some v→∀w,S w→jK base es (rE P ops base C es i o).1=true→G i (bY (qZ base es) o) w v)
  (hk:∀a w,S w→LZ base n a0 (MJ P ops base C es i o) a→Wp rest a w):Wp (i::rest) a w:=by
 have go:∀ch,QQ ops C es o=some ch→jK base es ch=true→cC o (jP ops a.tmps)=true→Wp (i::rest) a w:=fun ch hgd lK hw=>by
  have uw:=h2 ch hgd;have hse:rE P ops base C es i o=(ch,xh P base C es i o):=by unfold rE;rw[hgd]
  have hput:∀w',T w w'→∀u,u=(xh P base C es i o).1→Wp rest (a.put o.dst u) w':=fun w' ht u hu=>hk _ _ (U5 _ _ hS ht) (OO hi h3 fun d _=>by
   rw[hse];show u=Mj (jK base es ch) (xh P base C es i o).1
   rw[lK,hu];rfl)
  have hop:∀ {ch':List (Nat × Bool)} {x:bH},jK base es ch'=true→Rx base es ch' x=true→a.eval x=qZ base es x:=fun g1 g2=>Xy hi g1 g2
  have fin:(∀w',S w'→G i (bY a.eval o) w' (xh P base C es i o).1)→Wp (i::rest) a w:=fun hg=>
   L.go i rest o a w (fun v w'=>v=(xh P base C es i o).1∧T w w') ho hw (hY _ _ _ _ hS hg fun w' ht=>⟨rfl,ht⟩) fun v w' ⟨e,ht⟩=>hput w' ht v e
  have rest':(∀c a b,o.op≠.pick c a b)→Wp (i::rest) a w:=fun Qz=>by
   have h6:(match ud o.op with | some l=>l.all (Rx base es ch) | none=>false)=true∧(match lQ C.hs i with | some _=>true | none=>match GI P base C es i o with | some (.value _,bl)=>(qm C i).isSome||bl.isEmpty | _=>false)=true:=by
    rw[YI Qz,aD] at uw;exact uw
   cases hl:ud o.op with
   |none=>rw[hl] at h6;cases h6.1
   |some l=>
    rw[hl] at h6;have hex:bY a.eval o=bY (qZ base es) o:=execOp_congr hl fun x hx=>hop lK (aU.1 h6.1 x hx);cases Az:lQ C.hs i with
    |some v=>
     have hv:(xh P base C es i o).1=v:=by unfold xh;rw[Az]
     refine fin fun w' Mi=>?_;rw[hex,hv];exact h5 v Az w' Mi (by rw[hse];exact lK)
    |none=>
     rw[Az] at h6;cases hlk:GI P base C es i o with
     |none=>rw[hlk] at h6;cases h6.2
     |some nb=>
      obtain⟨nx,bl⟩:=nb;rw[hlk] at h6;cases nx<;>try (cases h6.2;done)
      rename_i v;have hv:xh P base C es i o=(v,bl):=by rw[Vi Qz Az,hlk]
      refine fin fun w' Mi=>hn Az _ _ _ ?_;rw[hv,hex];refine m5 hlk fun b QH=>?_;have h7:=h4 b (by rw[hse,hv];exact QH);have h8:=h6.2;simp only[] at h8;unfold Ub;cases hmm:qm C i with
      |none=>
       rw[hmm] at h8;cases bl with
       |nil=>cases QH
       |cons _ _=>cases h8
      |some m=>
       rw[hmm] at h7;have h7:b=m.1:=h7;subst h7;unfold qm at hmm;exact hm.get (List.mem_of_getElem? hmm) w' Mi
  by_cases RA:∃c a b,o.op=.pick c a b
  case neg=>exact rest' fun c a b h=>RA ⟨c,a,b,h⟩
  obtain⟨c,x,y,Ax⟩:=RA;unfold okO at uw;rw[Ax] at uw;simp only[aD] at uw;obtain⟨⟨hnone,Zc⟩,rB⟩:=uw;have Az:lQ C.hs i=none:=by simpa using hnone
  have Nh:=hop lK Zc;cases I3:YU C c with
  |some t=>
   rw[I3] at rB
   have hv:(xh P base C es i o).1=if t then qZ base es x else qZ base es y:=by
    unfold xh;rw[Az,Ax];simp only[I3];cases t<;>rfl
   cases t with
   |true=>
    rw[aD] at rB;refine fin fun w' Mi=>hn Az _ _ _ ?_;rw[hv,qQ Ax (Nh.trans (n4.1 rB.1)),if_pos rfl,if_pos rfl,hop lK rB.2]
   |false=>
    rw[aD] at rB;refine fin fun w' Mi=>hn Az _ _ _ ?_;rw[hv,qQ Ax (Nh.trans (n4.1 rB.1)),if_neg (by simp),if_neg (by simp),hop lK rB.2]
  |none=>
   rw[I3] at rB;simp only[aD] at rB;obtain⟨⟨⟨⟨g1,g2⟩,g3⟩,g4⟩,g5⟩:=rB
   have hv:(xh P base C es i o).1=bools (qZ base es c) (qZ base es x) (qZ base es y):=by
    unfold xh;rw[Az,Ax];simp only[I3]
   have ib:∀ {v:aj},isBool v=true→∃x,v=.bool x:=fun {v} h=>by cases v<;>first|exact⟨_,rfl⟩|cases h
   obtain⟨t,ht⟩:=ib g1;obtain⟨x',hx⟩:=ib g2;obtain⟨y',hy⟩:=ib g3
   have hw2:∀q,t=q→jK base es (Od c q ch)=true:=fun q hq=>by
    unfold Od;cases c<;>simp only[]<;>try exact lK
    unfold jK at lK ⊢;rw[List.all_cons,lK,ht,hq];cases q<;>rfl
   refine fin fun w' Mi=>hn Az _ _ _ ?_;rw[hv,qQ Ax (Nh.trans ht),ht,hx,hy];cases t with
   |true=>rw[if_pos rfl,hop (hw2 true rfl) g4,hx];rfl
   |false=>rw[if_neg (by simp),hop (hw2 false rfl) g5,hy];rfl
 cases hgd:o.guard with
 |none=>exact go [] (by unfold QQ;rw[hgd]) rfl (by simp[cC,hgd])
 |some jb=>
  obtain⟨j,b⟩:=jb;unfold TL at h1;rw[hgd] at h1;simp only[] at h1;cases Mf:dV ops j with
  |none=>rw[Mf] at h1;cases h1
  |some g=>
   rw[Mf] at h1;simp only[aD] at h1;obtain⟨hkn,hlt⟩:=h1
   have hval:a.eval (.tmp g)=Mj (jK base es (Rc es g)) (qZ base es (.tmp g)):=by
    unfold Rc;rw[C5];cases qH:lQ es g with
    |some e=>exact hi.ent g e qH
    |none=>
     rw[qH] at hkn;cases hb:lQ base g with
     |none=>rw[hb] at hkn;cases hkn
     |some v=>rw[hi.bas g v qH hb];rfl
   have Tg:=JP (a:=a) hgd Mf
   have skip:rE P ops base C es i o=([],af,[])∨jK base es (rE P ops base C es i o).1=false→¬a.eval (.tmp g)=.bool b→Wp (i::rest) a w:=fun hs hne=>
    L.no i rest o a w ho (fun h=>hne (Tg.1 h)) (hk _ _ hS (OO hi h3 fun d _=>by
     rcases hs with hs|hs
     ·rw[hs];rfl
     ·rw[hs];rfl))
   cases qH:lQ C.lits g with
   |some b'=>
    rw[qH] at hlt;rw[n4.1 hlt] at hval
    by_cases zX:b'=b
    ·subst zX;have wh:QQ ops C es o=some (Rc es g):=by unfold QQ;rw[hgd];simp only[Mf,qH];simp
     cases hcc:jK base es (Rc es g) with
     |true=>rw[hcc] at hval;exact go _ wh hcc (Tg.2 hval)
     |false=>rw[hcc] at hval;exact skip (.inr (by unfold rE;rw[wh];exact hcc)) (by rw[hval];simp[Mj,af])
    ·have wh:QQ ops C es o=none:=by
      unfold QQ;rw[hgd];simp only[Mf,qH];have:(b'==b)=false:=beq_false_of_ne zX;rw[this];rfl
     refine skip (.inl (by unfold rE;rw[wh])) ?_;rw[hval];cases jK base es (Rc es g) with
     |true=>simp[Mj];exact zX
     |false=>simp[Mj,af]
   |none=>
    have wh:QQ ops C es o=some ((g,b)::Rc es g):=by unfold QQ;rw[hgd];simp only[Mf,qH]
    have hca:jK base es ((g,b)::Rc es g)=(M7 (qZ base es (.tmp g)) b&&jK base es (Rc es g)):=by unfold jK;rw[List.all_cons]
    cases hcc:jK base es (Rc es g) with
    |false=>rw[hcc] at hval;exact skip (.inr (by unfold rE;rw[wh];show jK base es ((g,b)::Rc es g)=false;rw[hca,hcc,Bool.and_false])) (by rw[hval];simp[Mj,af])
    |true=>
     rw[hcc] at hval;have hval:a.eval (.tmp g)=qZ base es (.tmp g):=hval;cases hib:M7 (qZ base es (.tmp g)) b with
     |true=>exact go _ wh (by rw[hca,hcc,hib];rfl) (Tg.2 (hval.trans (n4.1 hib)))
     |false=>
      refine skip (.inr (by unfold rE;rw[wh];show jK base es ((g,b)::Rc es g)=false;rw[hca,hib];rfl)) fun h=>?_;have h9:=n4.2 (hval.symm.trans h);rw[hib] at h9;cases h9
theorem Oj{Wp:List Nat→je→ar→Prop}{Y:lM}{G:Nat→Sem Next→ar→aj→Prop}{T:ar→ar→Prop}(L:vZ ops Wp Y)(U5:∀w w',S w→T w w'→S w')(QJ:∀w,T w w)
  (hn:∀i,lQ C.hs i=none→∀s w v,s.run P w=.ok (.value v) w→G i s w v)
  (hY:∀i o ev w v R,S w→(∀w',S w'→G i (bY ev o) w' v)→(∀w',T w w'→R v w')→Y o ev w R) (hm:nE S C.mem) {rest:List Nat} :
  ∀(l:List cy) (i:Nat) (es:Es) (a:je) (w:ar),(∀j o,l[j]?=some o→ops[i+j]?=some o)→WY P ops base C n i l es=true→VS P ops base C i l es=VQ P ops base C i l es→
  (∀j v,lQ C.hs (i+j)=some v→j<l.length→∀w,S w→jK base (FC P ops base C i (l.take j) es) (rE P ops base C (FC P ops base C i (l.take j) es) (i+j) (opAt ops (i+j))).1=true→G (i+j) (bY (qZ base (FC P ops base C i (l.take j) es)) (opAt ops (i+j))) w v)→
  LZ base n a0 es a→S w→(∀a w,S w→LZ base n a0 (FC P ops base C i l es) a→Wp rest a w)→Wp (bV i l.length++rest) a w
 |[],i,es,a,w,_,_,_,_,hi,hS,hk=>hk a w hS hi
 |o::l,i,es,a,w,hat,hck,QA,hh,hi,hS,hk=>by
  have ho:ops[i]?=some o:=hat 0 o rfl;have hoa:opAt ops i=o:=by unfold opAt;simp[List.getD,ho]
  unfold WY at hck;rw[aD,aD,aD] at hck;unfold VS VQ at QA;rw[Aa] at QA;show Wp (i::(bV (i+1) l.length++rest)) a w;refine Yt L U5 QJ ho (hn i) (hY i o) hm hi hS hck.1.1.1 (fun ch hg=>by have:=hck.1.1.2;rw[hg] at this;exact this) hck.1.2 (fun b hb=>?_) (fun v hv w' Mi hc=>?_) fun a' w' Mi hi'=>?_
  ·rw[QA.1] at hb;obtain⟨_,_,rfl⟩:=cY.1 hb;rfl
  ·have:=hh 0 v hv (by simp) w' Mi;rw[Nat.add_zero,hoa] at this;exact this hc
  ·refine Oj L U5 QJ hn hY hm l (i+1) _ a' w' (fun j o' hj=>?_) hck.2 QA.2 (fun j v hv hj w2 QK hc=>?_) hi' Mi hk
   ·have:=hat (j+1) o' (by simpa using hj);rwa [show i+1+j=i+(j+1) by omega]
   ·have:=hh (j+1) v (by rwa [show i+(j+1)=i+1+j by omega]) (by simpa using hj) w2 QK;rw[show i+(j+1)=i+1+j by omega] at this;exact this hc
theorem Il{Wp:List Nat→je→ar→Prop}{Y:lM}{G:Nat→Sem Next→ar→aj→Prop}{T:ar→ar→Prop}(L:vZ ops Wp Y)(U5:∀w w',S w→T w w'→S w')(QJ:∀w,T w w)
  (hn:∀i,lQ C.hs i=none→∀s w v,s.run P w=.ok (.value v) w→G i s w v)
  (hY:∀i o ev w v R,S w→(∀w',S w'→G i (bY ev o) w' v)→(∀w',T w w'→R v w')→Y o ev w R)
  {dK:List (kr × aj)} {i k m:Nat} {outs:List (kr × aj)} {W:ar} (hF:jg n a0 base) (hF2:jg n a0 dK) (hr:yI P ops base C n dK i k outs=yH P ops base C i k outs) (hS:S W) (hm:nE S C.mem) (hh:RH P ops base C G S i C.hs)
  (hy:uH (fun l=>∀a w,S w→jg n a l→Wp (bV (i+k) m) a w) outs dK):Wp (bV i (k+m)) a0 W:=by
 unfold yI yH at hr;rw[iB,iB,aD,aD] at hr;obtain⟨⟨⟨hsz,hb2⟩,hck⟩,QA,hout⟩:=hr;have hsz:=Nat.le_of_ble_eq_true hsz;have hlen:(zx ops i k).length=k:=by unfold zx;simp;omega
 have hcut:∀j o,(zx ops i k)[j]?=some o→ops[i+j]?=some o:=fun j o h=>by
  unfold zx at h;rw[List.getElem?_take] at h;split at h
  ·rw[List.getElem?_drop] at h;simpa using h
  ·cases h
 have key:=Oj (rest:=bV (i+k) m) (a0:=a0) L U5 QJ hn hY hm (zx ops i k) i [] a0 W hcut hck QA (fun j v hv hj w hSw=>?_) ⟨hF.size,hF.defers,(fun t e h=>by cases h),(fun t v _ h=>Eg hF.base h),fun _ _=>rfl⟩ hS fun a w hSw hi=>?_
 ·rw[hlen] at key;rwa [List.range'_append_1] at key
 ·have:=hh.get (zg hv) w hSw
  have e:Lg P ops base C i (i+j)=FC P ops base C i ((zx ops i k).take j) []:=by
   unfold Lg zx;rw[List.take_take,show i+j-i=j by omega,Nat.min_eq_left (by rw[hlen] at hj;omega)]
  simp only[e] at this;exact this
 ·refine hy.get a w hSw (jg.rev ?_)
  have Ts:jg n a dK:=by
   refine⟨hi.size,hi.defers,hF2.base.congr fun p hp=>hi.keep _ ?_⟩;have:=aU.1 hb2 p hp;simpa using this
  refine⟨Ts.size,Ts.defers,?_⟩;clear hy
  induction outs with
  |nil=>exact Ts.base
  |cons p l ih=>
   rw[List.map_cons,List.map_cons,Aa] at hout;refine⟨?_,ih hout.2⟩;have h1:=hout.1;unfold abM at h1;cases he:lQ (FC P ops base C i (zx ops i k) []) p.1 with
   |none=>rw[he] at h1;cases h1
   |some e=>
    rw[he] at h1;simp only[] at h1;cases hc:e.1 with
    |cons _ _=>rw[hc] at h1;cases h1
    |nil=>
     rw[hc] at h1;have:=hi.ent p.1 e he;rw[hc] at this;rw[this,←Option.some.inj h1];rfl
variable{Q:Exit→je→ar→Prop}
theorem Kv:vZ ops (wpOps P ops Q) (Yields P):=
 ⟨fun i rest o a w R ho hw hy hk=>by
  rw[wpOps_cons];exact wpOp_step ho fun K' hK=>by rw[if_pos hw];exact hy.wp fun v w' hv=>hK _ _ (hk v w' hv),
 fun i rest o a w ho hw hk=>by
  rw[wpOps_cons]
  exact wpOp_step ho fun K' hK=>by rw[if_neg hw];exact hK _ _ hk⟩
theorem CP(i k m:Nat)(C:Cf)(outs:List (kr × aj)){dK:List (kr × aj)}{W:ar}(hF:jg n a0 base)(hF2:jg n a0 dK)(hm:nE (fun w=>az W.heap.size W w) C.mem)(hh:RH P ops base C (fun _=>lZ P) (fun w=>az W.heap.size W w) i C.hs)(hy:uH (fun l=>∀a w,az W.heap.size W w→jg n a l→wpOps P ops Q (bV (i+k) m) a w) outs dK)(hr:yI P ops base C n dK i k outs=yH P ops base C i k outs:=by kernel_rfl):wpOps P ops Q (bV i (k+m)) a0 W:=
 Il (T:=fun w w'=>az w.heap.size w w') Kv (fun _ _ h hb=>h.trans (hb.mono h.size)) (fun w=>aw _ _) (fun i _ s w v h=>gr h) (fun i o ev w v R hS hg hR=>(hg w hS).yields hR) hF hF2 hr (aw _ _) hm hh hy
section
variable{id:Nat}{y:Code}{W:ar}{dK:List (kr × aj)}
theorem adK{N:Nat}(hN:ops.size=N)(h:wpOps P ops (Exit.then (fun a w=>y.wp P Q a w) Q) (bV 0 N) a0 W):(Code.seq (.region id ops false) y).wp P Q a0 W:=
 wp_seq (wp_region (by rw[mF,hN];exact h))
theorem Yf{N:Nat}(hN:ops.size=N)(h:wpOps P ops Q (bV 0 N) a0 W):(Code.region id ops false).wp P Q a0 W:=
 wp_region (by rw[mF,hN];exact h)
theorem adv{i:Nat}(h:Q .normal a0 W):wpOps P ops Q (bV i 0) a0 W:=h
theorem kJ(C:Cf)(outs:List (kr × aj))(hF:jg n a0 base)(hF2:jg n a0 dK)(hm:nE (fun w=>az W.heap.size W w) C.mem)(hh:RH P ops base C (fun _=>lZ P) (fun w=>az W.heap.size W w) 0 C.hs)(hy:uH (fun l=>∀a w,az W.heap.size W w→jg n a l→y.wp P Q a w) outs dK)(hr:yI P ops base C n dK 0 ops.size outs=yH P ops base C 0 ops.size outs:=by kernel_rfl):(Code.seq (.region id ops false) y).wp P Q a0 W:=
 adK rfl (CP (hr:=hr) 0 ops.size 0 C outs hF hF2 hm hh (by
  rw[cJ]
  exact hy))
theorem Uf(C:Cf)(outs:List (kr × aj))(hF:jg n a0 base)(hF2:jg n a0 dK)(hm:nE (fun w=>az W.heap.size W w) C.mem)(hh:RH P ops base C (fun _=>lZ P) (fun w=>az W.heap.size W w) 0 C.hs)(hy:uH (fun l=>∀a w,az W.heap.size W w→jg n a l→Q .normal a w) outs dK)(hr:yI P ops base C n dK 0 ops.size outs=yH P ops base C 0 ops.size outs:=by kernel_rfl):(Code.region id ops false).wp P Q a0 W:=
 Yf rfl (CP (hr:=hr) 0 ops.size 0 C outs hF hF2 hm hh (by
  rw[cJ]
  exact hy))
theorem uH.mono{K K':List (kr × aj)→Prop}(h:∀l,K l→K' l):∀ {r l:List (kr × aj)},uH K r l→uH K' r l
 |[],l,hk=>h l hk
 |p::r,l,hk=>uH.mono h (r:=r) hk
end
def Dh(P:aI)(ops:Array cy)(base:List (kr × aj))(C:Cf)(n:Nat)(dK:List (kr × aj))(i:Nat)(d:Option kr):Bool:=
 Nat.blt i ops.size&&TL ops base C [] (opAt ops i)&&(match QQ ops C [] (opAt ops i) with|some []=>true|_=>false)&&(match ud (opAt ops i).op with|some l=>l.all (Rx base [] [])|none=>false) &&
  (match (opAt ops i).dst,d with|some x,some y=>Nat.beq x y&&Nat.blt y n&&dK.all fun p=>!Nat.beq p.1 y|none,none=>true|_,_=>false)
def jE:Option kr→aj→List (kr × aj)→List (kr × aj)
 |some d,v,l=>(d,v)::l
 |none,_,l=>l
theorem Hw{Wp:List Nat→je→ar→Prop}{Y:lM}(L:vZ ops Wp Y){dK:List (kr × aj)}{i m:Nat}{d:Option kr}{W:ar}{R:aj→ar→Prop}(hF:jg n a0 base)(hF2:jg n a0 dK)(hc:Dh P ops base C n dK i d=true)
  (hY:∀ev,bY ev (opAt ops i)=bY (qZ base []) (opAt ops i)→Y (opAt ops i) ev W R) (hk:∀v w,R v w→∀a,jg n a (jE d v dK)→Wp (bV (i+1) m) a w):Wp (bV i (m+1)) a0 W:=by
 unfold Dh at hc;simp only[aD] at hc;obtain⟨⟨⟨⟨h1,h2⟩,h3⟩,h4⟩,h5⟩:=hc;have hi:i<ops.size:=by unfold Nat.blt at h1;exact Nat.le_of_ble_eq_true h1
 have ho:ops[i]?=some (opAt ops i):=by unfold opAt;simp[List.getD,hi]
 generalize opAt ops i=o at *;have hinv:LZ base n a0 [] a0:=⟨hF.size,hF.defers,(fun t e h=>by cases h),(fun t v _ h=>Eg hF.base h),fun _ _=>rfl⟩
 have hex:bY a0.eval o=bY (qZ base []) o:=by
  cases hl:ud o.op with
  |none=>rw[hl] at h4;cases h4
  |some l=>
   rw[hl] at h4;exact execOp_congr hl fun x hx=>Xy hinv (ch:=[]) rfl (aU.1 h4 x hx)
 have hw:cC o (jP ops a0.tmps)=true:=by
  unfold cC;cases hgd:o.guard with
  |none=>rfl
  |some jb=>
   obtain⟨j,b⟩:=jb;unfold TL at h2;unfold QQ at h3;rw[hgd] at h2 h3;simp only[] at h2 h3;cases Mf:dV ops j with
   |none=>rw[Mf] at h2;cases h2
   |some g=>
    rw[Mf] at h2 h3;simp only[aD] at h2 h3
    have hval:a0.eval (.tmp g)=qZ base [] (.tmp g):=by
     rw[C5];show _=(lQ base g).getD af;cases hb:lQ base g with
     |none=>have:=h2.1;rw[hb] at this;cases this
     |some v=>rw[hinv.bas g v rfl hb];rfl
    cases qH:lQ C.lits g with
    |none=>rw[qH] at h3;cases h3
    |some b'=>
     rw[qH] at h2 h3
     by_cases zX:b'=b
     ·subst zX;rw[n4.1 h2.2] at hval;have h9:=(JP (a:=a0) hgd Mf).2 hval;unfold cC at h9;rw[hgd] at h9;exact h9
     ·have:(b'==b)=false:=beq_false_of_ne zX;simp only[this] at h3;cases h3
 rw[List.range'_succ];refine L.go i _ o a0 W R ho hw (hY _ hex) fun v w hv=>hk v w hv _ ?_;cases hdd:o.dst with
 |none=>
  rw[hdd] at h5;cases d with
  |some _=>cases h5
  |none=>exact hF2
 |some x=>
  rw[hdd] at h5;cases d with
  |none=>cases h5
  |some y=>
   simp only[aD] at h5;have Y0:=gU h5.1.1;subst Y0;have hlt:x<n:=by have:=h5.1.2;unfold Nat.blt at this;exact Nat.le_of_ble_eq_true this
   exact(hF2.put x v h5.2).cons (put_eq a0 x v (by rw[hF.size];exact hlt))
section
variable{dK:List (kr × aj)}{i m:Nat}{W:ar}
theorem Yields.ex{o:cy}{ev ED:bH→aj}{w:ar}{R:aj→ar→Prop}(he:bY ev o=bY ED o)(h:Yields P o ED w R):Yields P o ev w R:=by
 unfold Yields at *;rw[he];exact h
theorem abO(C:Cf)(d:Option kr){R:aj→ar→Prop}(hF:jg n a0 base)(hF2:jg n a0 dK)(hc:Dh P ops base C n dK i d=true)(hY:Yields P (opAt ops i) (qZ base []) W R)
  (hk:∀v w,R v w→∀a,jg n a (jE d v dK)→wpOps P ops Q (bV (i+1) m) a w):wpOps P ops Q (bV i (m+1)) a0 W:=
 Hw Kv hF hF2 hc (fun ev he=>hY.ex he) hk
def SK(P:aI)(r:Nat):Sem Next→Option (Array aj × aZ × Nat × Nat × Option (Next × List Nat))
 |.new o k=>match o with
  |.cells cs t fr=>some (cs,t,fr.1,fr.2,look P #[] (k r))
  |_=>none
 |.program k=>SK P r (k P)
 |_=>none
theorem OH{P:aI}{s:Sem Next}{cs:Array aj}{t:aZ}{v:aj}{w:ar}(h:SK P w.heap.size s=some (cs,t,0,0,some (.value v,[]))):s.run P w=.ok (.value v) (w.alloc (.cells cs t)):=by
 induction s with
 |new o k _=>
  unfold SK at h;cases o with
  |cells cs' t' fr=>
   obtain⟨f1,f2⟩:=fr;simp only[gw,iB] at h;obtain⟨rfl,rfl,rfl,rfl,h5⟩:=h
   conv=>lhs;unfold Sem.run
   exact m5 h5 (by simp)
  |_=>cases h
 |program k ih=>exact ih P h
 |_=>cases h
theorem abU(C:Cf)(d:Option kr)(vf:Nat→aj)(cs:Array aj)(t:aZ)(hF:jg n a0 base)(hF2:jg n a0 dK)(hk:∀B w a,W.heap.size≤B→az W.heap.size W w→w.heap[B]?=some (.cells cs t (0,0))→jg n a (jE d (vf B) dK)→wpOps P ops Q (bV (i+1) m) a w)(hc:Dh P ops base C n dK i d=true:=by kernel_rfl)(he:∀r,SK P r (bY (qZ base []) (opAt ops i))=some (cs,t,0,0,some (.value (vf r),[])):=by intro r;kernel_rfl):wpOps P ops Q (bV i (m+1)) a0 W:=
 abO C d (R:=fun v w=>∃B,v=vf B∧W.heap.size≤B∧az W.heap.size W w∧w.heap[B]?=some (.cells cs t (0,0))) hF hF2 hc (.value (OH (he _)) ⟨_,rfl,ax _,(aw _ _).alloc (ax _) _,ay _ _⟩)
  fun v w ⟨B,e,h1,h2,h3⟩ a hl=>hk B w a h1 h2 h3 (e▸hl)
def stores(P:aI):Sem Next→Option (List (Nat × Nat × aj))
 |.pure .skip=>some []
 |.program k=>stores P (k P)
 |.store _ a v k=>match a.spot,v with
  |some _,_=>none
  |_,.agg _=>none
  |_,.tuple _=>none
  |none,v=>match stores P k with
   |some l=>some ((a.block,a.off,v)::l)
   |none=>none
 |_=>none
def DK(cs:Array aj):List (Nat × Nat × aj)→Array aj
 |[]=>cs
 |p::l=>DK (cs.setIfInBounds p.2.1 p.2.2) l
structure But(B:Nat)(w w':ar):Prop where
 os:w'.os=w.os
 tape:w'.tape=w.tape
 output:w'.output=w.output
 size:w'.heap.size=w.heap.size
 block:∀k,k≠B→w'.heap[k]?=w.heap[k]?
theorem But.below{B m:Nat}{V w w':ar}(h:But B w w')(ho:az m V w)(hB:m≤B):az m V w':=⟨h.os.trans ho.os,h.tape.trans ho.tape,h.output.trans ho.output,by rw[h.size];exact ho.size,fun k hk=>(h.block k (by omega)).trans (ho.block k hk)⟩
theorem Mu{P:aI}{B:Nat}{t:aZ}{s:Sem Next}:∀ {l:List (Nat × Nat × aj)} {cs:Array aj} {w:ar},stores P s=some l→(∀p∈l,p.1=B∧p.2.1<cs.size)→w.heap[B]?=some (.cells cs t (0,0))→
  ∃w',s.run P w=.ok .skip w'∧w'.heap[B]?=some (.cells (DK cs l) t (0,0))∧But B w w':=by
 induction s with
 |pure x=>intro l cs w h _ hB;cases x<;>cases h;exact⟨w,rfl,hB,rfl,rfl,rfl,rfl,fun _ _=>rfl⟩
 |program k ih=>intro l cs w h hl hB;exact ih P h hl hB
 |store m a v k ih=>
  intro l cs w h hl hB;unfold stores at h
  have main:∀v:aj,(∀x,v≠.agg x)→(∀x,v≠.tuple x)→a.spot=none→(match stores P k with|some l=>some ((a.block,a.off,v)::l)|none=>none)=some l→∃w',(Sem.store m a v k).run P w=.ok .skip w'∧w'.heap[B]?=some (.cells (DK cs l) t (0,0))∧But B w w':=fun v n1 n2 hs h=>by
   cases hk:stores P k with
   |none=>rw[hk] at h;cases h
   |some l'=>
    rw[hk] at h;cases h;obtain⟨h1,h2⟩:=hl _ (List.mem_cons_self ..);simp only[] at h1 h2;obtain⟨b,off,sp⟩:=a;simp only[] at h1 h2 hs;subst h1 hs;have hc:w.cell? ⟨b,off,none⟩=some cs[off]:=aH hB off _ (Array.getElem?_eq_getElem h2);obtain⟨w',g1,g2,g3⟩:=ih (cs:=cs.setIfInBounds off v) (w:=w.setCell ⟨b,off,none⟩ v) hk (fun p hp=>by simpa using hl p (List.mem_cons_of_mem _ hp)) (cP v hB);refine⟨w',?_,g2,g3.os,g3.tape,g3.output,by rw[g3.size];simp,fun k hk=>(g3.block k hk).trans (bj w ⟨b,off,none⟩ v k hk)⟩;rw[←g1];have hf:w.frozen? ⟨b,off,none⟩=false:=cM hB off;cases v<;>first|exact absurd rfl (n1 _)|exact absurd rfl (n2 _)|(conv=>lhs;unfold Sem.run;simp only[hc,hf,Bool.false_eq_true,if_false])
  cases hs:a.spot with
  |some _=>rw[hs] at h;cases h
  |none=>
   rw[hs] at h;cases v<;>first|(cases h;done)|exact main _ (by simp) (by simp) hs h
 |_=>intro l cs w h;cases h
theorem abH(C:Cf){B:Nat}(cs cs':Array aj){t:aZ}(hB:W.heap[B]?=some (.cells cs t (0,0)))(l:List Nat)
  (he:(Dh P ops base C n dK i none,(stores P (bY (qZ base []) (opAt ops i))).map fun q=>(q.map (·.1),(q.all fun p=>Nat.blt p.2.1 cs.size),DK cs q))=(true,some (l.map fun _=>B,true,cs'))) :
  Dh P ops base C n dK i none=true∧∀w,w.heap[B]?=some (.cells cs t (0,0))→∃w',(bY (qZ base []) (opAt ops i)).run P w=.ok .skip w'∧w'.heap[B]?=some (.cells cs' t (0,0))∧But B w w':=by
 rw[iB] at he;refine⟨he.1,fun w hw=>?_⟩;cases hs:stores P (bY (qZ base []) (opAt ops i)) with
 |none=>rw[hs] at he;cases he.2
 |some q=>
  rw[hs] at he;have h2:=he.2;simp only[Option.map_some,gw,iB] at h2;obtain⟨h3,h4,h5⟩:=h2;subst h5;refine Mu hs (fun p hp=>⟨?_,?_⟩) hw
  ·have:p.1∈q.map (·.1):=cY.2 ⟨p,hp,rfl⟩;rw[h3] at this;obtain⟨_,_,e⟩:=cY.1 this;exact e.symm
  ·have:=aU.1 h4 p hp;unfold Nat.blt at this;exact Nat.le_of_ble_eq_true this
end
end
end Go.Lag
namespace Go.Proofs.YtffladgmkiimjaaGreatDoor
open Go.RowKit Go.Lag
theorem fA(n l m:Int)(w:ar):bm aq 35 #[ah ag n,ah ag l,ah ag m] w fun e w'=>e=aC (aF (aQ n l m))∧az w.heap.size w w':=by
 refine mD Tryz.func35 rfl ?_;have hF:=kY (args:=#[ah ag n,ah ag l,ah ag m]) (n:=15) (by simp) [(2,ah ag m),(1,ah ag l),(0,ah ag n)] ⟨nw rfl,nw rfl,nw rfl,trivial⟩;rw[show Tryz.f35.ntmps=15 from rfl];generalize (⟨#[ah ag n,ah ag l,ah ag m]++aV (15-(#[ah ag n,ah ag l,ah ag m]:Array aj).size) af,[]⟩:je)=a at *;refine(fun h:∀W,az w.heap.size w W→cH aq _ _ a W=>h w (aw _ _)) ?_;intro W HB;refine kJ ⟨[],[],[],[]⟩ [(6,aF false)] hF hF trivial trivial ?_;intro a W ho hF;replace HB:=HB.tr ho;clear ho;replace hF:=hF.tl;refine kJ ⟨[],[],[],[]⟩ [(6,aF ((decide (l≤n))&&(decide (n≤m))))] hF hF trivial trivial ?_;intro a W ho hF;replace HB:=HB.tr ho;clear ho;refine gq ?_;show dQ aq Tryz.f35 (fun e w'=>e=aK (aF (aQ n l m))∧az w.heap.size w w') ej a W;exact bn (bU rfl _ _ _) hF.defers ⟨congrArg aK (((hF.g 0 rfl):a.eval (aJ 6)=aF ((decide (l≤n))&&(decide (n≤m)))).trans (rfl)),HB⟩
def bW(lo hi l m:Int):Bool:=(decide (l≤lo)&&decide (lo≤hi))&&decide (hi≤m)
theorem qU(lo hi l m:Int)(w:ar):bm aq 147 #[aO #[ah ag lo,ah ag hi],ah ag l,ah ag m] w fun e w'=>e=aC (aF (bW lo hi l m))∧az w.heap.size w w':=by
 refine mD Tryz.func147 rfl ?_;have hF:=kY (args:=#[aO #[ah ag lo,ah ag hi],ah ag l,ah ag m]) (n:=24) (by simp) [(2,ah ag m),(1,ah ag l),(0,aO #[ah ag lo,ah ag hi])] ⟨nw rfl,nw rfl,nw rfl,trivial⟩;rw[show Tryz.f147.ntmps=24 from rfl];generalize (⟨#[aO #[ah ag lo,ah ag hi],ah ag l,ah ag m]++aV (24-(#[aO #[ah ag lo,ah ag hi],ah ag l,ah ag m]:Array aj).size) af,[]⟩:je)=a at *;refine(fun h:∀W,az w.heap.size w W→cH aq _ _ a W=>h w (aw _ _)) ?_;intro W HB
 refine mL [fun v ds w9=>∃B,v=pv B 0∧w9.heap[B]?=some (au #[ah ag lo,ah ag hi] 23 (0,0)),pV (aF false)]
  _ (by kernel_rfl) hF.size hF.base ?_ ?_ ?_
 ·refine⟨?_,sV,trivial⟩
  ·rintro v ds w1 w2 hS ⟨B,h1,h2⟩ hb;exact⟨B,h1,aL h2 hb⟩
 ·refine⟨?_,?_,trivial⟩<;>rintro ev w1 hS hc hg hf ⟨-,-,b0,-⟩ hd
  ·clear hd;refine Lag.Yields.value (v:=pv w1.heap.size 0) (w':=w1.alloc (au #[ah ag lo,ah ag hi] 23)) ?_ ⟨⟨_,rfl,ay _ _⟩,cF ((aw _ _).alloc (ax _) _)⟩;go_simp
  ·clear hd;exact tV
 intro a W hR;have ho:=hR.s;obtain⟨B3,e3,K3⟩:=hR.val 0 (by decide);replace e3:a.eval (aJ 3)=bp (some ⟨B3,0,none⟩):=e3;replace HB:=HB.tr ho;replace hF:=((hR.fr hF (by kernel_rfl)).cons (t:=3) e3).cons (t:=6) (hR.val 1 (by decide));clear hR ho e3;replace hF:=hF.tl;refine kJ ⟨[],[],[(B3,#[ah ag lo,ah ag hi])],[]⟩ [(6,aF (((decide (l≤lo))&&(decide (lo≤hi)))&&(decide (hi≤m))))] hF hF ⟨fun w1 hS=>⟨_,_,aL K3 hS⟩,trivial⟩ trivial ?_;intro a W ho hF;replace HB:=HB.tr ho;replace K3:=aL K3 ho;clear ho;refine gq ?_;show dQ aq Tryz.f147 (fun e w'=>e=aK (aF (bW lo hi l m))∧az w.heap.size w w') ej a W;exact bn (bU rfl _ _ _) hF.defers ⟨congrArg aK (((hF.g 0 rfl):a.eval (aJ 6)=aF (((decide (l≤lo))&&(decide (lo≤hi)))&&(decide (hi≤m)))).trans (rfl)),HB⟩
theorem ry(b:BB)(men sent marks:aj)(n:Int)(w:ar):bm aq 134 #[aO (b.cells men sent marks),ah ag n] w fun e w'=>e=aC (aF (aQ n 1 b.minutes))∧az w.heap.size w w':=by
 refine mD Tryz.func134 rfl ?_;have hF:=kY (args:=#[aO (b.cells men sent marks),ah ag n]) (n:=9) (by simp) [(1,ah ag n),(0,aO (b.cells men sent marks))] ⟨nw rfl,nw rfl,trivial⟩;rw[show Tryz.f134.ntmps=9 from rfl];generalize (⟨#[aO (b.cells men sent marks),ah ag n]++aV (9-(#[aO (b.cells men sent marks),ah ag n]:Array aj).size) af,[]⟩:je)=a at *;refine(fun h:∀W,az w.heap.size w W→cH aq _ _ a W=>h w (aw _ _)) ?_;intro W HB
 refine mL [fun v ds w9=>∃B,v=pv B 0∧w9.heap[B]?=some (au (b.cells men sent marks) 28 (0,0)),pV (aF false)]
  _ (by kernel_rfl) hF.size hF.base ?_ ?_ ?_
 ·refine⟨?_,sV,trivial⟩
  ·rintro v ds w1 w2 hS ⟨B,h1,h2⟩ hb;exact⟨B,h1,aL h2 hb⟩
 ·refine⟨?_,?_,trivial⟩<;>rintro ev w1 hS hc hg hf ⟨-,b0,-⟩ hd
  ·clear hd;refine Lag.Yields.value (v:=pv w1.heap.size 0) (w':=w1.alloc (au (b.cells men sent marks) 28)) ?_ ⟨⟨_,rfl,ay _ _⟩,cF ((aw _ _).alloc (ax _) _)⟩;go_simp
  ·clear hd;exact tV
 intro a W hR;have ho:=hR.s;obtain⟨B2,e2,K2⟩:=hR.val 0 (by decide);replace e2:a.eval (aJ 2)=bp (some ⟨B2,0,none⟩):=e2;replace HB:=HB.tr ho;replace hF:=((hR.fr hF (by kernel_rfl)).cons (t:=2) e2).cons (t:=4) (hR.val 1 (by decide));clear hR ho e2;replace hF:=hF.tl;refine kJ ⟨[],[(3,aF (aQ n 1 b.minutes))],[(B2,(b.cells men sent marks))],[]⟩ [(4,aF (aQ n 1 b.minutes))] hF hF ⟨fun w1 hS=>⟨_,_,aL K2 hS⟩,trivial⟩ ⟨fun w1 hS _=>gc (fA n 1 b.minutes w1),trivial⟩ ?_;intro a W ho hF;replace HB:=HB.tr ho;replace K2:=aL K2 ho;clear ho;refine gq ?_;show dQ aq Tryz.f134 (fun e w'=>e=aK (aF (aQ n 1 b.minutes))∧az w.heap.size w w') ej a W;exact bn (bU rfl _ _ _) hF.defers ⟨congrArg aK (((hF.g 0 rfl):a.eval (aJ 4)=aF (aQ n 1 b.minutes)).trans (rfl)),HB⟩
theorem RU{lo hi:Int}(h:bW lo hi 0 99=true):IntKind.i64.wrap (hi-lo)=hi-lo:=by
 unfold bW at h;simp at h;rw[IntKind.wrap_i64];omega
def Ce(b:BB):Bool:=(((!(aQ b.room 1 99))||(!(aQ b.depth 0 99)))||(!(aQ b.least 0 99)))||(!(aQ b.minutes 1 8))
def E5(b:BB):Bool:=(((!(aQ b.bM 0 99))||(!(aQ b.fD 0 99)))||(!(aQ b.fC 0 99)))||(!(aQ b.dc 0 3))
def Hg(b:BB):Bool:=((!(bW b.pl b.pm 1 b.minutes))||(!(bW b.ll b.lm 0 99)))||decide (b.lm-b.ll≥3)
def lX(b:BB):Int:=if Ce b then 1 else if E5 b then 1 else if Hg b then 1 else 0
theorem FY(b:BB)(men sent marks:aj)(w:ar):bm aq 145 #[aO (b.cells men sent marks)] w fun e w'=>e=aC (ah ag (lX b))∧az w.heap.size w w':=by
 refine mD Tryz.func145 rfl ?_;have hF:=kY (args:=#[aO (b.cells men sent marks)]) (n:=69) (by simp) [(0,aO (b.cells men sent marks))] ⟨nw rfl,trivial⟩;rw[show Tryz.f145.ntmps=69 from rfl];generalize (⟨#[aO (b.cells men sent marks)]++aV (69-(#[aO (b.cells men sent marks)]:Array aj).size) af,[]⟩:je)=a at *;refine(fun h:∀W,az w.heap.size w W→cH aq _ _ a W=>h w (aw _ _)) ?_;intro W HB
 refine mL [fun v ds w9=>∃B,v=pv B 0∧w9.heap[B]?=some (au (b.cells men sent marks) 28 (0,0)),pV (ah ag 0)]
  _ (by kernel_rfl) hF.size hF.base ?_ ?_ ?_
 ·refine⟨?_,sV,trivial⟩
  ·rintro v ds w1 w2 hS ⟨B,h1,h2⟩ hb;exact⟨B,h1,aL h2 hb⟩
 ·refine⟨?_,?_,trivial⟩<;>rintro ev w1 hS hc hg hf ⟨b0,-⟩ hd
  ·clear hd;refine Lag.Yields.value (v:=pv w1.heap.size 0) (w':=w1.alloc (au (b.cells men sent marks) 28)) ?_ ⟨⟨_,rfl,ay _ _⟩,cF ((aw _ _).alloc (ax _) _)⟩;go_simp
  ·clear hd;exact tV
 intro a W hR;have ho:=hR.s;obtain⟨B1,e1,K1⟩:=hR.val 0 (by decide);replace e1:a.eval (aJ 1)=bp (some ⟨B1,0,none⟩):=e1;replace HB:=HB.tr ho;replace hF:=((hR.fr hF (by kernel_rfl)).cons (t:=1) e1).cons (t:=2) (hR.val 1 (by decide));clear hR ho e1;refine wp_seq ?_;refine kJ ⟨[],[(2,aF (aQ b.room 1 99)),(7,aF (aQ b.depth 0 99)),(13,aF (aQ b.least 0 99)),(19,aF (aQ b.minutes 1 8))],[(B1,(b.cells men sent marks))],[]⟩ [(24,aF ((((!(aQ b.room 1 99))||(!(aQ b.depth 0 99)))||(!(aQ b.least 0 99)))||(!(aQ b.minutes 1 8))))] hF hF ⟨fun w1 hS=>⟨_,_,aL K1 hS⟩,trivial⟩ ⟨fun w1 hS _=>gc (fA b.room 1 99 w1),fun w1 hS _=>gc (fA b.depth 0 99 w1),fun w1 hS _=>gc (fA b.least 0 99 w1),fun w1 hS _=>gc (fA b.minutes 1 8 w1),trivial⟩ ?_;intro a W ho hF;replace HB:=HB.tr ho;replace K1:=aL K1 ho;clear ho;refine cB (t:=((((!(aQ b.room 1 99))||(!(aQ b.depth 0 99)))||(!(aQ b.least 0 99)))||(!(aQ b.minutes 1 8)))) (hF.g 0 rfl) (fun Ct=>?_) (fun Ct=>?_)
 ·skip
  replace hF:=hF.tl;replace hF:=hF.tl;refine kJ ⟨[],[],[],[]⟩ [(2,ah ag 1)] hF hF trivial trivial ?_;intro a W ho hF;replace HB:=HB.tr ho;replace K1:=aL K1 ho;clear ho;refine gq ?_;show dQ aq Tryz.f145 (fun e w'=>e=aK (ah ag (lX b))∧az w.heap.size w w') ej a W;exact bn (bU rfl _ _ _) hF.defers ⟨congrArg aK (((hF.g 0 rfl):a.eval (aJ 2)=ah ag 1).trans (by unfold lX;rw[if_pos (show Ce b=true from Ct)])),HB⟩
 ·skip
  replace hF:=hF.tl;refine wp_skip ?_;show cH aq _ _ _ _;refine wp_seq ?_;refine kJ ⟨[],[(2,aF (aQ b.bM 0 99)),(7,aF (aQ b.fD 0 99)),(13,aF (aQ b.fC 0 99)),(19,aF (aQ b.dc 0 3))],[(B1,(b.cells men sent marks))],[]⟩ [(46,aF ((((!(aQ b.bM 0 99))||(!(aQ b.fD 0 99)))||(!(aQ b.fC 0 99)))||(!(aQ b.dc 0 3))))] hF hF ⟨fun w1 hS=>⟨_,_,aL K1 hS⟩,trivial⟩ ⟨fun w1 hS _=>gc (fA b.bM 0 99 w1),fun w1 hS _=>gc (fA b.fD 0 99 w1),fun w1 hS _=>gc (fA b.fC 0 99 w1),fun w1 hS _=>gc (fA b.dc 0 3 w1),trivial⟩ ?_;intro a W ho hF;replace HB:=HB.tr ho;replace K1:=aL K1 ho;clear ho;refine cB (t:=((((!(aQ b.bM 0 99))||(!(aQ b.fD 0 99)))||(!(aQ b.fC 0 99)))||(!(aQ b.dc 0 3)))) (hF.g 0 rfl) (fun Ws=>?_) (fun Ws=>?_)
  ·skip
   replace hF:=hF.tl;replace hF:=hF.tl;refine kJ ⟨[],[],[],[]⟩ [(2,ah ag 1)] hF hF trivial trivial ?_;intro a W ho hF;replace HB:=HB.tr ho;replace K1:=aL K1 ho;clear ho;refine gq ?_;show dQ aq Tryz.f145 (fun e w'=>e=aK (ah ag (lX b))∧az w.heap.size w w') ej a W;exact bn (bU rfl _ _ _) hF.defers ⟨congrArg aK (((hF.g 0 rfl):a.eval (aJ 2)=ah ag 1).trans (by unfold lX;rw[if_neg (by rw[show Ce b=_ from Ct];simp),if_pos (show E5 b=true from Ws)])),HB⟩
  ·skip
   replace hF:=hF.tl;refine wp_skip ?_;show cH aq _ _ _ _;refine wp_seq ?_
   refine mL [pV (bp (some ⟨B1,10,none⟩)),pV (aO #[ah ag b.pl,ah ag b.pm]),pV (bp (some ⟨B1,3,none⟩)),pV (ah ag b.minutes),pV (aF (bW b.pl b.pm 1 b.minutes)),pV (aF (!(bW b.pl b.pm 1 b.minutes))),pV (aF (!(bW b.pl b.pm 1 b.minutes))),pC (!(!(bW b.pl b.pm 1 b.minutes))) (bp (some ⟨B1,8,none⟩)),pC (!(!(bW b.pl b.pm 1 b.minutes))) (aO #[ah ag b.ll,ah ag b.lm]),pC (!(!(bW b.pl b.pm 1 b.minutes))) (aF (bW b.ll b.lm 0 99)),pC (!(!(bW b.pl b.pm 1 b.minutes))) (aF (!(bW b.ll b.lm 0 99))),pV (aF ((!(bW b.pl b.pm 1 b.minutes))||(!(bW b.ll b.lm 0 99)))),pV (aF ((!(bW b.pl b.pm 1 b.minutes))||(!(bW b.ll b.lm 0 99)))),pC (!((!(bW b.pl b.pm 1 b.minutes))||(!(bW b.ll b.lm 0 99)))) (bp (some ⟨B1,8,none⟩)),pC (!((!(bW b.pl b.pm 1 b.minutes))||(!(bW b.ll b.lm 0 99)))) (bp (some ⟨B1,9,none⟩)),pC (!((!(bW b.pl b.pm 1 b.minutes))||(!(bW b.ll b.lm 0 99)))) (ah ag b.lm),pC (!((!(bW b.pl b.pm 1 b.minutes))||(!(bW b.ll b.lm 0 99)))) (bp (some ⟨B1,8,none⟩)),pC (!((!(bW b.pl b.pm 1 b.minutes))||(!(bW b.ll b.lm 0 99)))) (bp (some ⟨B1,8,none⟩)),pC (!((!(bW b.pl b.pm 1 b.minutes))||(!(bW b.ll b.lm 0 99)))) (ah ag b.ll),pC (!((!(bW b.pl b.pm 1 b.minutes))||(!(bW b.ll b.lm 0 99)))) (ah ag (b.lm-b.ll)),pC (!((!(bW b.pl b.pm 1 b.minutes))||(!(bW b.ll b.lm 0 99)))) (aF (decide ((b.lm-b.ll)≥3))),pV (aF (((!(bW b.pl b.pm 1 b.minutes))||(!(bW b.ll b.lm 0 99)))||(decide ((b.lm-b.ll)≥3))))]
    _ (by kernel_rfl) hF.size hF.base ?_ ?_ ?_
   ·exact⟨sV,sV,sV,sV,sV,sV,sV,sC,sC,sC,sC,sV,sV,sC,sC,sC,sC,sC,sC,sC,sC,sV,trivial⟩
   ·refine⟨?_,?_,?_,?_,?_,?_,?_,?_,?_,?_,?_,?_,?_,?_,?_,?_,?_,?_,?_,?_,?_,?_,trivial⟩<;>rintro ev w1 hS hc hg hf ⟨-,b1,-,-⟩ hd
    all_goals try
     try have d0:ev (aJ _)=_:=hd.1 rfl
     clear hd;refine yw rfl ?_ rfl;go_simp;done
    all_goals try
     try have d0:ev (aJ _)=_:=hd.1 rfl
     try have c0:_→ev (aJ _)=_:=hd.1 rfl
     try have d1:ev (aJ _)=_:=hd.2.1 rfl
     clear hd
     first|refine gC d0 lS fun hA=>?_|refine gC d1 lS fun hA=>?_
     try replace c0:=c0 hA
     refine yw rfl ?_ (fun _=>rfl);go_simp;done
    ·have d0:ev (aJ 47)=_:=hd.1 rfl;clear hd;have z10:=aH (aL K1 hS) 10 _ rfl;have z11:=aH (aL K1 hS) 11 _ rfl;exact tV
    ·have d2:ev (aJ 49)=_:=hd.1 rfl;clear hd;have z:=aH (aL K1 hS) 3 _ rfl;exact tV
    ·have d1:ev (aJ 48)=_:=hd.1 rfl;have d3:ev (aJ 50)=_:=hd.2.1 rfl;clear hd;refine yc (qU b.pl b.pm 1 b.minutes w1) ?_ (fun _=>rfl);go_simp
    ·have d7:_→ev (aJ 54)=_:=hd.1 rfl;have d6:ev (aJ 53)=_:=hd.2.1 rfl;clear hd;refine gC d6 lS fun hA=>?_;have y7:=d7 hA;have z8:=aH (aL K1 hS) 8 _ rfl;have z9:=aH (aL K1 hS) 9 _ rfl;refine yv ?_ (fun _=>rfl);go_simp
    ·have d8:_→ev (aJ 55)=_:=hd.1 rfl;have d6:ev (aJ 53)=_:=hd.2.1 rfl;clear hd;refine gC d6 lS fun hA=>?_;have y8:=d8 hA;refine yc (qU b.ll b.lm 0 99 w1) ?_ (fun _=>fun _=>rfl);go_simp
    ·have d6:ev (aJ 53)=_:=hd.1 rfl;have d10:_→ev (aJ 57)=_:=hd.2.1 rfl;clear hd;exact yO rfl hc d6 (fun hq=>d10 (by simp[hq])) (rfl)
    ·have d14:_→ev (aJ 61)=_:=hd.1 rfl;have d12:ev (aJ 59)=_:=hd.2.1 rfl;clear hd;refine gC d12 lS fun hA=>?_;have JJ:=d14 hA;have z:=aH (aL K1 hS) 9 _ rfl;refine yv ?_ (fun _=>rfl);go_simp
    ·have d17:_→ev (aJ 64)=_:=hd.1 rfl;have d12:ev (aJ 59)=_:=hd.2.1 rfl;clear hd;refine gC d12 lS fun hA=>?_;have y17:=d17 hA;have z:=aH (aL K1 hS) 8 _ rfl;refine yv ?_ (fun _=>rfl);go_simp
    ·have d15:_→ev (aJ 62)=_:=hd.1 rfl;have d18:_→ev (aJ 65)=_:=hd.2.1 rfl;have d12:ev (aJ 59)=_:=hd.2.2.1 rfl;clear hd;refine gC d12 lS fun hA=>?_;have Hq:=d15 hA;have y18:=d18 hA;have hw:=RU (lo:=b.ll) (hi:=b.lm) (by revert hA;cases bW b.ll b.lm 0 99<;>simp);refine yv ?_ (fun _=>rfl);go_simp
    ·have d12:ev (aJ 59)=_:=hd.1 rfl;have d20:_→ev (aJ 67)=_:=hd.2.1 rfl;clear hd;exact yO rfl hc d12 (fun hq=>d20 (by simp[hq])) (rfl)
   intro a W hR;have ho:=hR.s;replace HB:=HB.tr ho;replace K1:=aL K1 ho;replace hF:=(hR.fr hF (by kernel_rfl)).cons (t:=68) (hR.val 21 (by decide));clear hR ho;refine cB (t:=(((!(bW b.pl b.pm 1 b.minutes))||(!(bW b.ll b.lm 0 99)))||(decide ((b.lm-b.ll)≥3)))) (hF.g 0 rfl) (fun ZA=>?_) (fun ZA=>?_)
   ·skip
    replace hF:=hF.tl;replace hF:=hF.tl;refine kJ ⟨[],[],[],[]⟩ [(2,ah ag 1)] hF hF trivial trivial ?_;intro a W ho hF;replace HB:=HB.tr ho;replace K1:=aL K1 ho;clear ho;refine gq ?_;show dQ aq Tryz.f145 (fun e w'=>e=aK (ah ag (lX b))∧az w.heap.size w w') ej a W;exact bn (bU rfl _ _ _) hF.defers ⟨congrArg aK (((hF.g 0 rfl):a.eval (aJ 2)=ah ag 1).trans (by unfold lX;rw[if_neg (by rw[show Ce b=_ from Ct];simp),if_neg (by rw[show E5 b=_ from Ws];simp),if_pos (show Hg b=true from ZA)])),HB⟩
   ·skip
    replace hF:=hF.tl;refine wp_skip ?_;show cH aq _ _ _ _;replace hF:=hF.tl;refine kJ ⟨[],[],[],[]⟩ [(2,ah ag 0)] hF hF trivial trivial ?_;intro a W ho hF;replace HB:=HB.tr ho;replace K1:=aL K1 ho;clear ho;refine gq ?_;show dQ aq Tryz.f145 (fun e w'=>e=aK (ah ag (lX b))∧az w.heap.size w w') ej a W;exact bn (bU rfl _ _ _) hF.defers ⟨congrArg aK (((hF.g 0 rfl):a.eval (aJ 2)=ah ag 0).trans (by unfold lX;rw[if_neg (by rw[show Ce b=_ from Ct];simp),if_neg (by rw[show E5 b=_ from Ws];simp),if_neg (by rw[show Hg b=_ from ZA];simp)])),HB⟩
end Go.Proofs.YtffladgmkiimjaaGreatDoor
