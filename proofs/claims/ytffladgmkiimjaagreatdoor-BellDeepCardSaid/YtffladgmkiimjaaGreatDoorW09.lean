/- A PHASE: goroutine 0's way; what holds of the machine at every moment. A PHASE: how what holds is kept: a worker's step, a leaver's, goroutine 0's. A  .. -/
import Derived.Test.YtffladgmkiimjaaGreatDoorW08
import Derived.Test.YtffladgmkiimjaaGreatDoorProg
import Derived.KernelRfl
import Derived.Test.YtffladgmkiimjaaGreatDoorW06
import Derived.DyingErrors
import Derived.Conc.Events
set_option linter.unusedVariables false
set_option linter.unusedSimpArgs false
set_option maxHeartbeats 100000000
set_option maxRecDepth 1000000
open Array renaming getElem?_setIfInBounds_self_of_lt → a7,getElem?_setIfInBounds_ne → aD,getElem?_eq_some_iff → aj,append_empty → ep,mem_of_getElem? → fF,all_eq_true' → kn,getElem?_push → lD
open Bool renaming and_eq_true → aS,false_eq_true → bF
open Go renaming Goroutine → aF,Program → aN,undef → af,Value → ak,World → ar,TypeId → bg,FuncId → eD,stepG → fK,callFunc → fY,Event → gy,unwind → lX,partners → wI
open Go.Conc renaming mem_ofEvents → AY,runT_crowd_go → Co,served → fL,parked → iI,offersAt_of_not_blocked → mQ,scase → nJ,crowd → qT
open Go.Extern renaming findNext → dh,find → gb
open Go.MemAct renaming ofEvent → gq
open Go.MemOp renaming ofEvents → iL
open Go.Proofs.Tryz renaming prog → aq
open Go.Region renaming wanted → dQ
open Go.Sem renaming runT_bind' → FE
open Go.Value renaming tuple → bM
open Go.stepG renaming apply → eE,oper → fG
open List renaming mem_append → bJ,all_eq_true → bL,mem_cons → cC,map_cons → di,not_mem_nil → eR,mem_map → eX,mem_toArray → fB,map_append → gi,mem_singleton → mG
open Nat renaming le_refl → ay,lt_of_lt_of_le → bE,eq_zero_or_pos → jg
open Ne renaming symm → AV
open Option renaming map_some → ej,bind_some → iK,isNone_iff_eq_none → ld
open Option.some renaming inj → bt,injEq → lF
open Pure renaming pure → fA
namespace Go.Lag
open Go.Conc
section
variable(P:aN)(c0 c1:Nat)(z0 z1:ak)
def jZ:Array CommCase:=#[rcase c0 z0,rcase c1 z1]
def VP(g:aF):Prop:=g.status=.running∧g.dying=none∧g.offers=none∧∀w,fK P true g w=.comm g (jZ c0 c1 z0 z1) true .select w #[]
def AtGo(g g' child:aF):Prop:=g.status=.running∧g.dying=none∧∀w,fK P true g w=.spawn g' child w #[]
def iO(g:aF)(k:Nat)(v:ak):Goroutine:=g.finishComm P (jZ c0 c1 z0 z1) .select k v true
inductive fS(Fin:List ak→List ak→(Nat→Prop)→(Nat→Prop)→aF→ar→Prop):Nat→Nat→List ak→List ak→(Nat→Prop)→(Nat→Prop)→aF→ar→Prop
 |fin {acc out:List ak} {S O:Nat→Prop} {g:aF} {w:ar}:g.status=.running→(∀w1,iD (fun c=>S c∨O c) w w1→Fin acc out S O g w1)→fS Fin 0 0 acc out S O g w
 |step {f m:Nat} {acc out:List ak} {S O:Nat→Prop} {g:aF} {w:ar}:g.status=.running→g.dying=none→
   (∀w1,iD (fun c=>S c∨O c) w w1→∃g2 w2 es,fK P true g w1=.go g2 w2 es∧IW S O w1 w2 es∧g2.status=.running∧g2.dying=none)→
   (∀w1,iD (fun c=>S c∨O c) w w1→∀g2 w2 es,fK P true g w1=.go g2 w2 es→fS Fin f m acc out S (own O w1 w2) g2 w2)→fS Fin f m acc out S O g w
 |spawn {f m:Nat} {acc out:List ak} {S O Sk S' O':Nat→Prop} {g g' child:aF} {w:ar} {b:Bool} {p:ak}:AtGo P g g' child→g'.status=.running→child.status=.running→(∀c,Sk c→S c∨O c)→gX P c0 c1 Sk p b (fun _=>False) child w→
   (∀c,S' c→S c∨O c)→(∀c,O' c→O c∧¬Sk c∧¬S' c)→fS Fin (f+b.toNat) (m+1) (acc ++ if b then[p] else[]) out S' O' g' w→fS Fin f m acc out S O g w
 |select {f m:Nat} {acc out:List ak} {S O:Nat→Prop} {g:aF} {w:ar}:VP P c0 c1 z0 z1 g→(∀v f',f=f'+1→v∈acc→fS Fin f' (m+1) acc (out ++ [v]) S O (iO P c0 c1 z0 z1 g 0 v) w)→
   (f≤m→fS Fin f m acc out S O (iO P c0 c1 z0 z1 g 1 (.bool true)) w)→fS Fin f (m+1) acc out S O g w
variable{P c0 c1 z0 z1}
theorem fS.rely{Fin:List ak→List ak→(Nat→Prop)→(Nat→Prop)→aF→ar→Prop}{f m:Nat}{acc out:List ak}{S O:Nat→Prop}{g:aF}{w:ar}(h:fS P c0 c1 z0 z1 Fin f m acc out S O g w) :
  ∀ {w1:ar},iD (fun c=>S c∨O c) w w1→fS P c0 c1 z0 z1 Fin f m acc out S O g w1:=by
 induction h with
 |fin hs h=>intro w1 hr;exact .fin hs fun w2 h2=>h w2 (hr.trans h2)
 |step a b c d _=>intro w1 hr;exact .step a b (fun w2 h2=>c w2 (hr.trans h2)) fun w2 h2=>d w2 (hr.trans h2)
 |spawn h1 h2 h2' h3 h4 h5 h6 _ ih=>
  intro w1 hr;exact .spawn h1 h2 h2' h3 (h4.rely _ _ _ ⟨hr.grow,fun c hc=>hr.keep c (h3 c (by simpa using hc))⟩) h5 h6 (ih ⟨hr.grow,fun c hc=>hr.keep c (hc.elim (h5 c) fun h=>.inr (h6 c h).1)⟩)
 |select h1 _ _ S5 WG=>intro w1 hr;exact .select h1 (fun v f' e hv=>S5 v f' e hv hr) fun hf=>WG hf hr
theorem fS.more{Fin:List ak→List ak→(Nat→Prop)→(Nat→Prop)→aF→ar→Prop}(hF : ∀acc out S O O' g w,Fin acc out S O g w→(∀c,O c→O' c)→Fin acc out S O' g w){f m:Nat}{acc out:List ak}{S O:Nat→Prop}{g:aF}{w:ar}(h:fS P c0 c1 z0 z1 Fin f m acc out S O g w) :
  ∀ {O':Nat→Prop},(∀c,O c→O' c)→fS P c0 c1 z0 z1 Fin f m acc out S O' g w:=by
 have hrel : ∀ {S O O':Nat→Prop} {w w1:ar},(∀c,O c→O' c)→iD (fun c=>S c∨O' c) w w1→iD (fun c=>S c∨O c) w w1:=fun ho hr=>⟨hr.grow,fun c hc=>hr.keep c (hc.imp id (ho c))⟩
 induction h with
 |fin hs h=>intro O' ho;exact .fin hs fun w1 hr=>hF _ _ _ _ _ _ _ (h w1 (hrel ho hr)) ho
 |step a b c d ih=>
  intro O' ho;refine .step a b (fun w1 hr=>?_) fun w1 hr g2 w2 es he=>?_
  ·obtain⟨g2,w2,es,e,hg,h1,h2⟩:=c w1 (hrel ho hr);exact⟨g2,w2,es,e,⟨hg.grow,fun c hc hn=>hg.keep c hc fun h=>hn (ho c h),hg.tape,hg.drawn,hg.os,hg.out,fun x hx=>(hg.evs x hx).mono (fun c hc=>hc.imp id fun h=>h.imp (ho c) id) fun c hc=>hc.imp (ho c) id⟩,h1,h2⟩
  ·exact ih w1 (hrel ho hr) g2 w2 es he fun c hc=>hc.imp (ho c) id
 |spawn h1 h2 h2' h3 h4 h5 h6 _ ih=>
  intro O' ho;exact .spawn h1 h2 h2' (fun c hc=>(h3 c hc).imp id (ho c)) h4 (fun c hc=>(h5 c hc).imp id (ho c)) (fun c hc=>⟨ho c (h6 c hc).1,(h6 c hc).2⟩) (by assumption)
 |select h1 _ _ S5 WG=>intro O' ho;exact .select h1 (fun v f' e hv=>S5 v f' e hv ho) fun hf=>WG hf ho
theorem fS.CB{Fin:List ak→List ak→(Nat→Prop)→(Nat→Prop)→aF→ar→Prop}{f m:Nat}{acc out:List ak}{S:Nat→Prop}{Stop:(Nat→Prop)→aF→ar→Prop}{O:Nat→Prop}{g:aF}{w:ar}(h:Walk P true S Stop O g w)
  (k : ∀O g w,Stop O g w→fS P c0 c1 z0 z1 Fin f m acc out S O g w):fS P c0 c1 z0 z1 Fin f m acc out S O g w:=by
 induction h with
 |@stop O g w h=>exact k _ _ _ (h w (.refl _ _))
 |step a b c d ih=>exact .step a b c ih
end
structure Geo(c0 c1:Nat)(S0 O0:Nat→Prop)(L:List X)(n:Nat):Prop where
 Hq : ∀c,S0 c∨O0 c→c<n∧c≠c0∧c≠c1
 dj0 : ∀c,S0 c→¬O0 c
 lt : ∀x∈L,∀c,x.S c∨x.O c→c<n∧c≠c0∧c≠c1
 dj : ∀x∈L,∀c,x.S c→¬x.O c
 mw : ∀x∈L,∀c,O0 c→¬x.S c∧¬x.O c
 wm : ∀x∈L,∀c,x.O c→¬S0 c
 ww : ∀x∈L,∀y∈L,x.id≠y.id→∀c,x.O c→¬y.S c∧¬y.O c
def SL(L:List X)(g c:Nat):Prop:=∃x∈L,x.id=g∧x.S c
def OL(L:List X)(g c:Nat):Prop:=∃x∈L,x.id=g∧x.O c
def act(L:List X)(g:Nat):Prop:=∃x∈L,x.id=g
def Chan(c:Nat)(w:ar):Prop:=∃s tm,w.heap[c]?=some (.chan 0 #[] false s s tm)
structure Inv(P:aN)(c0 c1:Nat)(S0 O0:Nat→Prop)(gm:aF)(L:List X)(gs:Array aF)(w:ar)(t:Trace)(q:Nat→Nat):Prop where
 zero:gs[0]?=some gm
 slot : ∀x∈L,gs[x.id]?=some x.g∧0<x.id
 ws : ∀x∈L,WS P c0 c1 x∧x.w=w
 nodup:(L.map X.id).Nodup
 old : ∀i g,0<i→gs[i]?=some g→¬act L i→QuitsD P (q i) (Deaf t i) g
 above : ∀j,gs.size≤j→Deaf t j=0
 pt:PT (act L) (SL L) (OL L) w.heap.size t
 geo:Geo c0 c1 S0 O0 L w.heap.size
 BH:Chan c0 w
 BG:Chan c1 w
 ne:c0≠c1
 Y0 : ∀g g' w',Chan c0 w'→Chan c1 w'→woken P g g' w' gm=gm
 Y8:gm.status=.running∨gm.status=.blocked
section
variable{P:aN}{c0 c1:Nat}{S0 O0:Nat→Prop}{gm:aF}{L:List X}{gs:Array aF}{w:ar}{t:Trace}{q:Nat→Nat}
theorem PT.congr{A A':Nat→Prop}{S O S' O':Nat→Nat→Prop}{B:Nat}(h:PT A S O B t)(hA : ∀g,A' g↔A g)(hS : ∀g,A g→∀c,S' g c↔S g c)(hO : ∀g,A g→∀c,O' g c↔O g c):PT A' S' O' B t:=by
 refine⟨h.clean,fun i a c ha hc=>(h.known i a c ha hc).imp id ?_,fun g hg i a c ha hc hs=>h.wk g ((hA g).1 hg) i a c ha hc ((hS g ((hA g).1 hg) c).1 hs),fun g hg i a c ha hc ho=>h.ow g ((hA g).1 hg) i a c ha hc ((hO g ((hA g).1 hg) c).1 ho),
  fun i g h1 h2 h3=>(h.over i g h1 h2 h3).imp id (hA g).2,h.hears,fun g hg=>h.tT g ((hA g).1 hg),h.seen,fun g hg=>h.pos g ((hA g).1 hg)⟩
 rintro⟨g,hg,h1,h2⟩;exact⟨g,(hA g).2 hg,h1,h2.imp (hO g hg c).2 fun h3=>⟨h3.1,(hS g hg c).2 h3.2⟩⟩
theorem gX.running{S:Nat→Prop}{p:ak}{b:Bool}{O:Nat→Prop}{g:aF}{w:ar}(h:gX P c0 c1 S p b O g w):g.status=.running:=by
 cases h with
 |step h _ _ _=>exact h
 |A7 h _=>exact h.1
 |A6 h _=>exact h.1
theorem WS.status{x:X}(h:WS P c0 c1 x):x.g.status=.running∨x.g.status=.blocked:=by
 cases h with
 |run h=>exact .inl h.running
 |ui _ _ _ e=>right;rw[e];rfl
 |uh _ _ _ e=>right;rw[e];rfl
theorem WS.woken{x:X}(h:WS P c0 c1 x)(h0:Chan c0 w)(h1:Chan c1 w)(g g':aF):Conc.woken P g g' w x.g=x.g:=by
 obtain⟨s,tm,h0⟩:=h0;obtain⟨s',tm',h1⟩:=h1;cases h with
 |run h=>exact woken_run h.running
 |ui _ _ _ e=>rw[e];exact woken_send_open _ _ h0
 |uh _ _ _ e=>rw[e];exact woken_send_open _ _ h1
theorem WS.rely{x:X}(h:WS P c0 c1 x){w':ar}(hr:iD (fun c=>x.S c∨x.O c) x.w w'):WS P c0 c1 (x.at w'):=by
 cases h with
 |run h=>exact .run (h.rely _ _ _ hr)
 |ui h1 h2 h3 h4=>exact .ui h1 h2 (h3.rely _ _ _ hr) h4
 |uh h1 h2 h3 h4=>exact .uh h1 h2 h3 h4
theorem JG{l:List X}(h:(l.map X.id).Nodup) : ∀x∈l,∀y∈l,x.id=y.id→x=y:=by
 induction l with
 |nil=>intro x hx;cases hx
 |cons a l ih=>
  simp only[di,List.nodup_cons,eX,not_exists,not_and] at h;intro x hx y hy e;rcases cC.1 hx with rfl|hx'<;>rcases cC.1 hy with rfl|hy'
  ·rfl
  ·exact absurd e.symm (h.1 y hy')
  ·exact absurd e (h.1 x hx')
  ·exact ih h.2 x hx' y hy' e
theorem nX{l1 l2:List X}{x:X}(h:((l1 ++ x :: l2).map X.id).Nodup) : ∀y∈l1 ++ l2,y.id≠x.id:=by
 simp only[gi,di,List.nodup_append,List.nodup_cons,eX,cC] at h;intro y hy e;rcases bJ.1 hy with hy|hy
 ·exact h.2.2 _ ⟨y,hy,rfl⟩ x.id (.inl rfl) e
 ·exact h.2.1.1 ⟨y,hy,e⟩
theorem Inv.size(h:Inv P c0 c1 S0 O0 gm L gs w t q):0<gs.size:=(aj.1 h.zero).1
theorem Inv.woken(h:Inv P c0 c1 S0 O0 gm L gs w t q){w':ar}(h0:Chan c0 w')(h1:Chan c1 w')(g g':aF):gs.map (Conc.woken P g g' w')=gs:=by
 apply Array.ext_getElem?;intro i;rw[Array.getElem?_map];cases hi:gs[i]? with
 |none=>rfl
 |some y=>
  simp only[ej];rcases jg i with rfl|kG
  ·rw[h.zero] at hi;cases hi;rw[h.Y0 g g' w' h0 h1]
  ·by_cases ha:act L i
   ·obtain⟨x,hx,rfl⟩:=ha;rw[(h.slot x hx).1] at hi;cases hi;rw[(h.ws x hx).1.woken h0 h1]
   ·rw[woken_quitsD (h.old i y kG hi ha)]
theorem Inv.awake(h:Inv P c0 c1 S0 O0 gm L gs w t q) : ∀x∈gs,awake x:=by
 intro y hy;obtain⟨i,hi⟩:=Array.mem_iff_getElem?.1 hy;rcases jg i with rfl|kG
 ·rw[h.zero] at hi;cases hi;exact awake_of (h.Y8.imp id .inl)
 ·by_cases ha:act L i
  ·obtain⟨x,hx,rfl⟩:=ha;rw[(h.slot x hx).1] at hi;cases hi;exact awake_of ((h.ws x hx).1.status.imp id .inl)
  ·exact awake_of ((h.old i y kG hi ha).status.elim .inl fun x=>.inr (.inr x))
theorem r7{K:Nat→Prop}{w w':ar}(h:w'.heap=w.heap):iD K w w':=⟨by rw[h];exact ay _,fun c _=>by rw[h]⟩
theorem nY{w':ar}{L:List X}{y:X}:y∈L.map (X.at w')↔∃x∈L,y=x.at w':=by
 simp only[eX];exact⟨fun⟨x,h1,h2⟩=>⟨x,h1,h2.symm⟩,fun⟨x,h1,h2⟩=>⟨x,h1,h2.symm⟩⟩
theorem IP{w':ar}{g:Nat}:act (L.map (X.at w')) g↔act L g:=by
 constructor
 ·rintro⟨y,hy,rfl⟩;obtain⟨x,hx,rfl⟩:=nY.1 hy;exact⟨x,hx,rfl⟩
 ·rintro⟨x,hx,rfl⟩;exact⟨x.at w',nY.2 ⟨x,hx,rfl⟩,rfl⟩
theorem VJ{w':ar}{g c:Nat}:SL (L.map (X.at w')) g c↔SL L g c:=by
 constructor
 ·rintro⟨y,hy,rfl,hs⟩;obtain⟨x,hx,rfl⟩:=nY.1 hy;exact⟨x,hx,rfl,hs⟩
 ·rintro⟨x,hx,rfl,hs⟩;exact⟨x.at w',nY.2 ⟨x,hx,rfl⟩,rfl,hs⟩
theorem VM{w':ar}{g c:Nat}:OL (L.map (X.at w')) g c↔OL L g c:=by
 constructor
 ·rintro⟨y,hy,rfl,hs⟩;obtain⟨x,hx,rfl⟩:=nY.1 hy;exact⟨x,hx,rfl,hs⟩
 ·rintro⟨x,hx,rfl,hs⟩;exact⟨x.at w',nY.2 ⟨x,hx,rfl⟩,rfl,hs⟩
theorem Geo.at{n:Nat}{w':ar}(h:Geo c0 c1 S0 O0 L n){n':Nat}(hn:n≤n'):Geo c0 c1 S0 O0 (L.map (X.at w')) n':=by
 have lift : ∀ {Q:X→Prop},(∀x∈L,Q (x.at w'))→∀y∈L.map (X.at w'),Q y:=fun hq y hy=>by
  obtain⟨x,hx,rfl⟩:=nY.1 hy;exact hq x hx
 refine⟨fun c hc=>?_,h.dj0,lift fun x hx c hc=>?_,lift fun x hx c hc=>h.dj x hx c hc,lift fun x hx c hc=>h.mw x hx c hc,lift fun x hx c hc=>h.wm x hx c hc,lift fun x hx=>lift fun y hy he c hc=>h.ww x hx y hy he c hc⟩
 ·have:=h.Hq c hc;exact⟨by omega,this.2⟩
 ·have:=h.lt x hx c hc;exact⟨by omega,this.2⟩
theorem Rf(L:List X)(w':ar):(L.map (X.at w')).map X.id=L.map X.id:=by
 rw[List.map_map];rfl
theorem Inv.draw(h:Inv P c0 c1 S0 O0 gm L gs w t q){w':ar}(hw:w'.heap=w.heap):Inv P c0 c1 S0 O0 gm (L.map (X.at w')) gs w' t q:=by
 have hlt:w'.heap.size=w.heap.size:=by rw[hw]
 refine⟨h.zero,fun y hy=>?_,fun y hy=>?_,by rw[Rf];exact h.nodup,fun i g hi hg ha=>h.old i g hi hg fun a=>ha (IP.2 a),h.above,?_,?_,?_,?_,h.ne,h.Y0,h.Y8⟩
 ·obtain⟨x,hx,rfl⟩:=nY.1 hy;exact h.slot x hx
 ·obtain⟨x,hx,rfl⟩:=nY.1 hy;refine⟨(h.ws x hx).1.rely ?_,rfl⟩;rw[(h.ws x hx).2];exact r7 hw
 ·rw[hlt];exact h.pt.congr (fun g=>IP) (fun g _ c=>VJ) fun g _ c=>VM
 ·exact h.geo.at (by omega)
 ·obtain⟨s,tm,e⟩:=h.BH;exact⟨s,tm,by rw[hw];exact e⟩
 ·obtain⟨s,tm,e⟩:=h.BG;exact⟨s,tm,by rw[hw];exact e⟩
end
open Go.ConcN (upd upd_ne upd_same sumTo sumTo_upd)
section
variable{P:aN}{c0 c1:Nat}{S0 O0:Nat→Prop}{gm:aF}{L l1 l2:List X}{x:X}{gs:Array aF}{w:ar}{t u:Trace}{q:Nat→Nat}
theorem Dx{k:Nat}{fn:eD}{pos:String}{es:Array gy}{R W:Nat→Prop}{B:Nat}(h : ∀e∈es,MT R W e)(hR : ∀c,R c→c<B) : ∀op∈iL k fn pos es,op.g=k∧IU R W op∧od op∧op.act.low B:=by
 intro op hop;obtain⟨e,he,rfl⟩:=AY hop;refine⟨rfl,?_⟩;obtain⟨loc,wr,sy⟩:=e;rcases h _ he with⟨a,h1,h2,h3,h4⟩|⟨r,h1,h2,h3,h4⟩|h1
 ·dsimp only at h1 h2 h4;subst h1;subst h2;refine⟨?_,⟨by simp[gq],by simp[gq]⟩,hR _ h3⟩;intro y hy;simp only[gq,MemAct.touch?,lF] at hy;subst hy;exact⟨rfl,a.block,rfl,h3,h4⟩
 ·dsimp only at h1 h2 h4;subst h1;subst h2;have e:gq ⟨.obj r,wr,false⟩=.access ⟨.obj r,wr,false⟩:=by cases wr<;>rfl
  dsimp only;refine⟨?_,?_,?_⟩
  ·intro y hy;dsimp only at hy;rw[e] at hy;simp only[MemAct.touch?,lF] at hy;subst hy;exact⟨rfl,r,rfl,h3,h4⟩
  ·unfold od;dsimp only;rw[e];exact⟨by simp,by simp⟩
  ·rw[e];exact hR _ h3
 ·dsimp only at h1;subst h1;refine⟨?_,⟨by simp[gq],by simp[gq]⟩,trivial⟩;intro y hy;simp[gq,MemAct.touch?] at hy
theorem gO{w':ar}{x2 y:X}:y∈l1.map (X.at w') ++ x2 :: l2.map (X.at w')↔y=x2∨∃z∈l1 ++ l2,y=z.at w':=by
 simp only[bJ,cC,eX];constructor
 ·rintro(⟨z,hz,rfl⟩|rfl|⟨z,hz,rfl⟩)
  ·exact .inr ⟨z,.inl hz,rfl⟩
  ·exact .inl rfl
  ·exact .inr ⟨z,.inr hz,rfl⟩
 ·rintro(rfl|⟨z,hz|hz,rfl⟩)
  ·exact .inr (.inl rfl)
  ·exact .inl ⟨z,hz,rfl⟩
  ·exact .inr (.inr ⟨z,hz,rfl⟩)
theorem pO{w':ar}{y:X}:y∈l1.map (X.at w') ++ l2.map (X.at w')↔∃z∈l1 ++ l2,y=z.at w':=by
 simp only[bJ,eX];constructor
 ·rintro(⟨z,hz,rfl⟩|⟨z,hz,rfl⟩)
  ·exact⟨z,.inl hz,rfl⟩
  ·exact⟨z,.inr hz,rfl⟩
 ·rintro⟨z,hz|hz,rfl⟩
  ·exact .inl ⟨z,hz,rfl⟩
  ·exact .inr ⟨z,hz,rfl⟩
theorem bO{z:X}(h:z∈l1 ++ l2):z∈l1 ++ x :: l2:=by
 rcases bJ.1 h with h|h
 ·exact bJ.2 (.inl h)
 ·exact bJ.2 (.inr (List.mem_cons_of_mem _ h))
theorem nu:x∈l1 ++ x :: l2:=bJ.2 (.inr (List.mem_cons_self ..))
theorem mY{z:X}(h:z∈l1 ++ x :: l2):z=x∨z∈l1 ++ l2:=by
 rcases bJ.1 h with h|h
 ·exact .inr (bJ.2 (.inl h))
 ·rcases cC.1 h with rfl|h
  ·exact .inl rfl
  ·exact .inr (bJ.2 (.inr h))
theorem CU{w':ar}{x2:X}(hid:x2.id=x.id){g:Nat}:act (l1.map (X.at w') ++ x2 :: l2.map (X.at w')) g↔act (l1 ++ x :: l2) g:=by
 constructor
 ·rintro⟨y,hy,rfl⟩;rcases gO.1 hy with rfl|⟨z,hz,rfl⟩
  ·exact⟨x,nu,hid.symm⟩
  ·exact⟨z,bO hz,rfl⟩
 ·rintro⟨y,hy,rfl⟩;rcases mY hy with rfl|hz
  ·exact⟨x2,gO.2 (.inl rfl),hid⟩
  ·exact⟨y.at w',gO.2 (.inr ⟨y,hz,rfl⟩),rfl⟩
theorem Nn{w':ar}{x2:X}(hid:x2.id=x.id):(l1.map (X.at w') ++ x2 :: l2.map (X.at w')).map X.id=(l1 ++ x :: l2).map X.id:=by
 simp only[gi,di,List.map_map,hid];rfl
theorem Inv.P0(h:Inv P c0 c1 S0 O0 gm (l1 ++ x :: l2) gs w t q){g2:aF}{w2:ar}{es:Array gy}(wO:IW x.S x.O w w2 es)(hp:gX P c0 c1 x.S x.p x.b (own x.O w w2) g2 w2)(fn:eD)(pos:String) :
  Inv P c0 c1 S0 O0 gm (l1.map (X.at w2) ++ { x with O:=own x.O w w2,g:=g2,w:=w2 } :: l2.map (X.at w2)) (gs.setIfInBounds x.id g2) w2 (t ++ iL x.id fn pos es) q∧iD (fun c=>S0 c∨O0 c) w w2:=by
 have hx:=nu (x:=x) (l1:=l1) (l2:=l2);have hid:({ x with O:=own x.O w w2,g:=g2,w:=w2 }:X).id=x.id:=rfl;have Ge:=h.slot x hx;have hlt:x.id<gs.size:=(aj.1 Ge.1).1;have hne:=nX h.nodup;have hgrow:=wO.grow;have Yg:c0<w.heap.size:=by obtain⟨s,tm,e⟩:=h.BH;exact eY e
 have Yf:c1<w.heap.size:=by obtain⟨s,tm,e⟩:=h.BG;exact eY e
 have xO : ∀c,x.O c→c<w.heap.size∧c≠c0∧c≠c1:=fun c hc=>h.geo.lt x hx c (.inr hc);have hrel : ∀K:Nat→Prop,(∀c,K c→c<w.heap.size∧¬x.O c)→iD K w w2:=fun K hK=>⟨hgrow,fun c hc=>wO.keep c (hK c hc).1 (hK c hc).2⟩
 have QL : ∀c,own x.O w w2 c→c<w2.heap.size:=fun c hc=>by
  rcases hc with hc|hc
  ·have:=(xO c hc).1;omega
  ·exact hc.2
 have VU : ∀z∈l1 ++ l2,iD (fun c=>z.S c∨z.O c) w w2:=fun z hz=>hrel _ fun c hc=>by
  refine⟨(h.geo.lt z (bO hz) c hc).1,fun ho=>?_⟩;have:=h.geo.ww x hx z (bO hz) (fun e=>hne z hz e.symm) c ho;exact hc.elim this.1 this.2
 have ch : ∀c,c<w.heap.size→(∀c',x.O c'→c'≠c)→Chan c w→Chan c w2:=fun c hcl hno ⟨s,tm,e⟩=>⟨s,tm,by rw[wO.keep c hcl (fun ho=>hno c ho rfl)];exact e⟩
 have hS : ∀c,SL (l1 ++ x :: l2) x.id c→x.S c:=fun c ⟨y,hy,Rg,hs⟩=>by
  have:=JG h.nodup y hy x hx Rg;subst this;exact hs
 have hO : ∀c,OL (l1 ++ x :: l2) x.id c→x.O c:=fun c ⟨y,hy,Rg,hs⟩=>by
  have:=JG h.nodup y hy x hx Rg;subst this;exact hs
 refine⟨⟨?_,?_,?_,?_,?_,?_,?_,?_,?_,?_,h.ne,h.Y0,h.Y8⟩,hrel _ fun c hc=>⟨(h.geo.Hq c hc).1,fun ho=>hc.elim (h.geo.wm x hx c ho) fun h0=>(h.geo.mw x hx c h0).2 ho⟩⟩
 ·have:x.id≠0:=by have:=Ge.2;omega
  rw[aD this];exact h.zero
 ·intro y hy;rcases gO.1 hy with rfl|⟨z,hz,rfl⟩
  ·exact⟨a7 hlt,Ge.2⟩
  ·have hs:=h.slot z (bO hz);refine⟨?_,hs.2⟩;show(gs.setIfInBounds x.id g2)[z.id]?=_;rw[aD (fun e=>hne z hz e.symm)];exact hs.1
 ·intro y hy;rcases gO.1 hy with rfl|⟨z,hz,rfl⟩
  ·exact⟨.run hp,rfl⟩
  ·have hs:=h.ws z (bO hz);exact⟨hs.1.rely (by rw[hs.2];exact VU z hz),rfl⟩
 ·rw[Nn hid];exact h.nodup
 ·intro i g hi hg ha;have ha' : ¬act (l1 ++ x :: l2) i:=fun a=>ha ((CU hid).2 a);have hix:x.id≠i:=fun e=>ha' ⟨x,hx,e⟩;rw[aD hix] at hg;rw[Deaf_other t hix _ (fun op hop=>by obtain⟨e,_,rfl⟩:=AY hop;rfl)];exact h.old i g hi hg ha'
 ·intro j hj;have hj':gs.size≤j:=by simpa using hj
  rw[Deaf_other t (g':=x.id) (by omega) _ (fun op hop=>by obtain⟨e,_,rfl⟩:=AY hop;rfl)];exact h.above j hj'
 ·have T4:=h.pt.appW (k:=x.id) ⟨x,hx,rfl⟩ (W:=own x.O w w2) hgrow (u:=iL x.id fn pos es)
   (Dx (fun e he=>(wO.evs e he).mono (fun c hc=>hc.imp (fun hs=>⟨x,hx,rfl,hs⟩) id) fun c hc=>hc) fun c hc=>by
    rcases hc with hc|hc
    ·have:=(h.geo.lt x hx c (.inl (hS c hc))).1;omega
    ·exact QL c hc)
   (fun c hc=>hc.imp (fun ho=>⟨x,hx,rfl,ho⟩) fun hn=>hn.1) (fun c hc=>.inl (hO c hc))
   (fun c hc hs=>by
    rcases hc with hc|hc
    ·exact h.geo.dj x hx c (hS c hs) hc
    ·have:=(h.geo.lt x hx c (.inl (hS c hs))).1;omega)
   (fun g hg CJ c hc=>by
    have lt' : ∀y∈l1 ++ x :: l2,y.id=g→¬(y.S c∨y.O c):=fun y hy TV hyc=>by
     rcases hc with hc|hc
     ·have:=h.geo.ww x hx y hy (fun e=>CJ (TV.symm.trans e.symm)) c hc;exact hyc.elim this.1 this.2
     ·have:=(h.geo.lt y hy c hyc).1;omega
    exact⟨fun⟨y,hy,TV,hs⟩=>lt' y hy TV (.inl hs),fun⟨y,hy,TV,hs⟩=>lt' y hy TV (.inr hs)⟩)
   (fun g hg CJ c hc ⟨y,hy,TV,ho⟩=>(h.geo.ww y hy x hx (fun e=>CJ (TV.symm.trans e)) c ho).1 (hS c hc))
  refine T4.congr (fun g=>CU hid) (fun g hg c=>?_) fun g hg c=>?_
  ·constructor
   ·rintro⟨y,hy,rfl,hs⟩;rcases gO.1 hy with rfl|⟨z,hz,rfl⟩
    ·exact⟨x,hx,rfl,hs⟩
    ·exact⟨z,bO hz,rfl,hs⟩
   ·rintro⟨y,hy,rfl,hs⟩;rcases mY hy with rfl|hz
    ·exact⟨_,gO.2 (.inl rfl),rfl,hs⟩
    ·exact⟨y.at w2,gO.2 (.inr ⟨y,hz,rfl⟩),rfl,hs⟩
  ·by_cases e:g=x.id
   ·subst e;simp only[if_true];constructor
    ·rintro⟨y,hy,Rg,hs⟩;rcases gO.1 hy with rfl|⟨z,hz,rfl⟩
     ·exact hs
     ·exact absurd Rg (hne z hz)
    ·intro hs;exact⟨_,gO.2 (.inl rfl),rfl,hs⟩
   ·simp only[e,if_false];constructor
    ·rintro⟨y,hy,rfl,hs⟩;rcases gO.1 hy with rfl|⟨z,hz,rfl⟩
     ·exact absurd rfl e
     ·exact⟨z,bO hz,rfl,hs⟩
    ·rintro⟨y,hy,rfl,hs⟩;rcases mY hy with rfl|hz
     ·exact absurd rfl e
     ·exact⟨y.at w2,gO.2 (.inr ⟨y,hz,rfl⟩),rfl,hs⟩
 ·have lift : ∀ {Q:X→Prop},Q { x with O:=own x.O w w2,g:=g2,w:=w2 }→(∀z∈l1 ++ l2,Q (z.at w2))→∀y∈l1.map (X.at w2) ++ { x with O:=own x.O w w2,g:=g2,w:=w2 } :: l2.map (X.at w2),Q y:=fun h1 h2 y hy=>by
   rcases gO.1 hy with rfl|⟨z,hz,rfl⟩
   ·exact h1
   ·exact h2 z hz
  refine⟨fun c hc=>⟨by have:=(h.geo.Hq c hc).1;omega,(h.geo.Hq c hc).2⟩,h.geo.dj0,lift (fun c hc=>?_) fun z hz c hc=>⟨by have:=(h.geo.lt z (bO hz) c hc).1;omega,(h.geo.lt z (bO hz) c hc).2⟩,
   lift (fun c hs ho=>?_) fun z hz=>h.geo.dj z (bO hz),lift (fun c h0=>⟨(h.geo.mw x hx c h0).1,fun ho=>?_⟩) fun z hz=>h.geo.mw z (bO hz),lift (fun c ho hs=>?_) fun z hz=>h.geo.wm z (bO hz),
   lift (lift (fun e=>absurd rfl e) fun z hz he c ho=>?_) fun z hz=>lift (fun he c ho=>?_) fun z' hz' he c ho=>h.geo.ww z (bO hz) z' (bO hz') he c ho⟩
  ·rcases hc with hc|hc|hc
   ·have:=h.geo.lt x hx c (.inl hc);exact⟨by omega,this.2⟩
   ·have:=xO c hc;exact⟨by omega,this.2⟩
   ·exact⟨hc.2,by omega,by omega⟩
  ·rcases ho with ho|ho
   ·exact h.geo.dj x hx c hs ho
   ·have:=(h.geo.lt x hx c (.inl hs)).1;omega
  ·rcases ho with ho|ho
   ·exact(h.geo.mw x hx c h0).2 ho
   ·have:=(h.geo.Hq c (.inr h0)).1;omega
  ·rcases ho with ho|ho
   ·exact h.geo.wm x hx c ho hs
   ·have:=(h.geo.Hq c (.inl hs)).1;omega
  ·rcases ho with ho|ho
   ·exact h.geo.ww x hx z (bO hz) he c ho
   ·have hz':=h.geo.lt z (bO hz) c;exact⟨fun hs=>by have:=(hz' (.inl hs)).1;omega,fun hs=>by have:=(hz' (.inr hs)).1;omega⟩
  ·have:=h.geo.ww z (bO hz) x hx he c ho;refine⟨this.1,fun hw=>hw.elim this.2 fun hn=>?_⟩;have:=(h.geo.lt z (bO hz) c (.inr ho)).1;omega
 ·exact ch c0 Yg (fun c' hc'=>(xO c' hc').2.1) h.BH
 ·exact ch c1 Yf (fun c' hc'=>(xO c' hc').2.2) h.BG
theorem Inv.replace(h:Inv P c0 c1 S0 O0 gm (l1 ++ x :: l2) gs w t q){x2:X}(hid:x2.id=x.id)(RI:x2.S=x.S)(Td:x2.O=x.O)(I1:WS P c0 c1 x2){w':ar}(hw2:x2.w=w'){gm':aF}{gs':Array aF}
  (g0:gs'[0]?=some gm') (gx:gs'[x.id]?=some x2.g) (gr : ∀i,i≠0→i≠x.id→gs'[i]?=gs[i]?) (gz:gs'.size=gs.size)
  (hsz:w'.heap.size=w.heap.size) (hkp : ∀c,c≠c0→c≠c1→w'.heap[c]?=w.heap[c]?) (BH:Chan c0 w') (BG:Chan c1 w') {t':Trace} (T4:PT (act (l1 ++ x :: l2)) (SL (l1 ++ x :: l2)) (OL (l1 ++ x :: l2)) w.heap.size t')
  (I2 : ∀i,Deaf t' i=Deaf t i) (TX : ∀g g' w',Chan c0 w'→Chan c1 w'→Conc.woken P g g' w' gm'=gm') (hst:gm'.status=.running∨gm'.status=.blocked) :
  Inv P c0 c1 S0 O0 gm' (l1.map (X.at w') ++ x2 :: l2.map (X.at w')) gs' w' t' q∧iD (fun c=>S0 c∨O0 c) w w':=by
 have hx:=nu (x:=x) (l1:=l1) (l2:=l2);have hne:=nX h.nodup;have Ge:=h.slot x hx;have hrel : ∀K:Nat→Prop,(∀c,K c→c≠c0∧c≠c1)→iD K w w':=fun K hK=>⟨by omega,fun c hc=>hkp c (hK c hc).1 (hK c hc).2⟩
 refine⟨⟨g0,?_,?_,?_,?_,?_,?_,?_,BH,BG,h.ne,TX,hst⟩,hrel _ fun c hc=>(h.geo.Hq c hc).2⟩
 ·intro y hy;rcases gO.1 hy with rfl|⟨z,hz,rfl⟩
  ·exact⟨by rw[hid];exact gx,by rw[hid];exact Ge.2⟩
  ·have hs:=h.slot z (bO hz);refine⟨?_,hs.2⟩;show gs'[z.id]?=_;rw[gr z.id (by have:=hs.2;omega) (hne z hz)];exact hs.1
 ·intro y hy;rcases gO.1 hy with rfl|⟨z,hz,rfl⟩
  ·exact⟨I1,hw2⟩
  ·have hs:=h.ws z (bO hz);exact⟨hs.1.rely (by rw[hs.2];exact hrel _ fun c hc=>(h.geo.lt z (bO hz) c hc).2),rfl⟩
 ·rw[Nn hid];exact h.nodup
 ·intro i g hi hg ha;have ha' : ¬act (l1 ++ x :: l2) i:=fun a=>ha ((CU hid).2 a);have hix:i≠x.id:=fun e=>ha' ⟨x,hx,e.symm⟩;rw[gr i (by omega) hix] at hg;rw[I2];exact h.old i g hi hg ha'
 ·intro j hj;rw[I2];exact h.above j (by omega)
 ·rw[hsz];refine T4.congr (fun g=>CU hid) (fun g hg c=>?_) fun g hg c=>?_
  ·constructor
   ·rintro⟨y,hy,rfl,hs⟩;rcases gO.1 hy with rfl|⟨z,hz,rfl⟩
    ·exact⟨x,hx,hid.symm,by rw[←RI];exact hs⟩
    ·exact⟨z,bO hz,rfl,hs⟩
   ·rintro⟨y,hy,rfl,hs⟩;rcases mY hy with rfl|hz
    ·exact⟨_,gO.2 (.inl rfl),hid,by rw[RI];exact hs⟩
    ·exact⟨y.at w',gO.2 (.inr ⟨y,hz,rfl⟩),rfl,hs⟩
  ·constructor
   ·rintro⟨y,hy,rfl,hs⟩;rcases gO.1 hy with rfl|⟨z,hz,rfl⟩
    ·exact⟨x,hx,hid.symm,by rw[←Td];exact hs⟩
    ·exact⟨z,bO hz,rfl,hs⟩
   ·rintro⟨y,hy,rfl,hs⟩;rcases mY hy with rfl|hz
    ·exact⟨_,gO.2 (.inl rfl),hid,by rw[Td];exact hs⟩
    ·exact⟨y.at w',gO.2 (.inr ⟨y,hz,rfl⟩),rfl,hs⟩
 ·rw[hsz]
  have lift : ∀ {Q:X→Prop},Q x2→(∀z∈l1 ++ l2,Q (z.at w'))→∀y∈l1.map (X.at w') ++ x2 :: l2.map (X.at w'),Q y:=fun h1 h2 y hy=>by
   rcases gO.1 hy with rfl|⟨z,hz,rfl⟩
   ·exact h1
   ·exact h2 z hz
  refine⟨h.geo.Hq,h.geo.dj0,lift (by rw[RI,Td];exact h.geo.lt x hx) fun z hz=>h.geo.lt z (bO hz),lift (by rw[RI,Td];exact h.geo.dj x hx) fun z hz=>h.geo.dj z (bO hz),
   lift (by rw[RI,Td];exact h.geo.mw x hx) fun z hz=>h.geo.mw z (bO hz),lift (by rw[Td];exact h.geo.wm x hx) fun z hz=>h.geo.wm z (bO hz),
   lift (lift (fun e=>absurd rfl e) fun z hz he=>?_) fun z hz=>lift (fun he=>?_) fun z' hz' he=>h.geo.ww z (bO hz) z' (bO hz') he⟩
  ·rw[Td];rw[hid] at he;exact h.geo.ww x hx z (bO hz) he
  ·rw[Td,RI];rw[hid] at he;exact h.geo.ww z (bO hz) x hx he
theorem Inv.cut(h:Inv P c0 c1 S0 O0 gm (l1 ++ x :: l2) gs w t q){g2:aF}{n:Nat}(hq:QuitsD P n 0 g2){w':ar}{gm':aF}{gs':Array aF}
  (g0:gs'[0]?=some gm') (gx:gs'[x.id]?=some g2) (gr : ∀i,i≠0→i≠x.id→gs'[i]?=gs[i]?) (gz:gs'.size=gs.size)
  (hsz:w'.heap.size=w.heap.size) (hkp : ∀c,c≠c0→c≠c1→w'.heap[c]?=w.heap[c]?) (BH:Chan c0 w') (BG:Chan c1 w') {t':Trace} (T4:PT (fun g=>act (l1 ++ x :: l2) g∧g≠x.id) (SL (l1 ++ x :: l2)) (OL (l1 ++ x :: l2)) w.heap.size t')
  (I2 : ∀i,Deaf t' i=Deaf t i) (TX : ∀g g' w',Chan c0 w'→Chan c1 w'→Conc.woken P g g' w' gm'=gm') (hst:gm'.status=.running∨gm'.status=.blocked) :
  Inv P c0 c1 S0 O0 gm' (l1.map (X.at w') ++ l2.map (X.at w')) gs' w' t' (upd q x.id n)∧iD (fun c=>S0 c∨O0 c) w w':=by
 have hx:=nu (x:=x) (l1:=l1) (l2:=l2);have hne:=nX h.nodup;have Ge:=h.slot x hx;have hrel : ∀K:Nat→Prop,(∀c,K c→c≠c0∧c≠c1)→iD K w w':=fun K hK=>⟨by omega,fun c hc=>hkp c (hK c hc).1 (hK c hc).2⟩
 have O5 : ∀g,act (l1.map (X.at w') ++ l2.map (X.at w')) g↔act (l1 ++ x :: l2) g∧g≠x.id:=by
  intro g;constructor
  ·rintro⟨y,hy,rfl⟩;obtain⟨z,hz,rfl⟩:=pO.1 hy;exact⟨⟨z,bO hz,rfl⟩,hne z hz⟩
  ·rintro⟨⟨y,hy,rfl⟩,hn⟩;rcases mY hy with rfl|hz
   ·exact absurd rfl hn
   ·exact⟨y.at w',pO.2 ⟨y,hz,rfl⟩,rfl⟩
 refine⟨⟨g0,?_,?_,?_,?_,?_,?_,?_,BH,BG,h.ne,TX,hst⟩,hrel _ fun c hc=>(h.geo.Hq c hc).2⟩
 ·intro y hy;obtain⟨z,hz,rfl⟩:=pO.1 hy;have hs:=h.slot z (bO hz);refine⟨?_,hs.2⟩;show gs'[z.id]?=_;rw[gr z.id (by have:=hs.2;omega) (hne z hz)];exact hs.1
 ·intro y hy;obtain⟨z,hz,rfl⟩:=pO.1 hy;have hs:=h.ws z (bO hz);exact⟨hs.1.rely (by rw[hs.2];exact hrel _ fun c hc=>(h.geo.lt z (bO hz) c hc).2),rfl⟩
 ·have e:(l1.map (X.at w') ++ l2.map (X.at w')).map X.id=l1.map X.id ++ l2.map X.id:=by simp only[gi,List.map_map];rfl
  rw[e];have:=h.nodup;simp only[gi,di] at this;exact this.sublist (List.Sublist.append_left (List.sublist_cons_self _ _) _)
 ·intro i g hi hg ha
  by_cases hix:i=x.id
  ·subst hix;rw[gx] at hg;cases hg;rw[upd_same,I2,h.pt.tT x.id ⟨x,hx,rfl⟩];exact hq
  ·have ha' : ¬act (l1 ++ x :: l2) i:=fun a=>ha ((O5 i).2 ⟨a,hix⟩);rw[gr i (by omega) hix] at hg;rw[I2,upd_ne q n hix];exact h.old i g hi hg ha'
 ·intro j hj;rw[I2];exact h.above j (by omega)
 ·rw[hsz];refine T4.congr O5 (fun g hg c=>?_) fun g hg c=>?_
  ·constructor
   ·rintro⟨y,hy,rfl,hs⟩;obtain⟨z,hz,rfl⟩:=pO.1 hy;exact⟨z,bO hz,rfl,hs⟩
   ·rintro⟨y,hy,rfl,hs⟩;rcases mY hy with rfl|hz
    ·exact absurd rfl hg.2
    ·exact⟨y.at w',pO.2 ⟨y,hz,rfl⟩,rfl,hs⟩
  ·constructor
   ·rintro⟨y,hy,rfl,hs⟩;obtain⟨z,hz,rfl⟩:=pO.1 hy;exact⟨z,bO hz,rfl,hs⟩
   ·rintro⟨y,hy,rfl,hs⟩;rcases mY hy with rfl|hz
    ·exact absurd rfl hg.2
    ·exact⟨y.at w',pO.2 ⟨y,hz,rfl⟩,rfl,hs⟩
 ·rw[hsz]
  have lift : ∀ {Q:X→Prop},(∀z∈l1 ++ l2,Q (z.at w'))→∀y∈l1.map (X.at w') ++ l2.map (X.at w'),Q y:=fun h2 y hy=>by
   obtain⟨z,hz,rfl⟩:=pO.1 hy;exact h2 z hz
  exact⟨h.geo.Hq,h.geo.dj0,lift fun z hz=>h.geo.lt z (bO hz),lift fun z hz=>h.geo.dj z (bO hz),lift fun z hz=>h.geo.mw z (bO hz),lift fun z hz=>h.geo.wm z (bO hz),
   lift fun z hz=>lift fun z' hz' he=>h.geo.ww z (bO hz) z' (bO hz') he⟩
theorem PT.PI{A:Nat→Prop}{S O:Nat→Nat→Prop}{B k:Nat}(h:PT A S O B t)(hk : ¬A k)(hk0:k≠0)(hu : ∀op∈u,op.g=k∧op.act.touch?=none∧op.act.low B):PT A S O B (t ++ u):=by
 have hn:=fun op hop=>(hu op hop).2.1;refine⟨Bo h.clean hn,fun i a c ha hc=>?_,fun g hg i a c ha hc hs hw=>?_,fun g hg i a c ha hc ho=>?_,fun i g h1 h2 h3=>?_,?_,fun g hg=>?_,seen_app h.seen fun op hop=>(hu op hop).2.2,h.pos⟩
 ·obtain⟨hi,ha'⟩:=fO hn ha;rcases h.known i a c ha' hc with hk|⟨g,hg,LZ,JY⟩
  ·exact .inl (hk.app u)
  ·exact .inr ⟨g,hg,g?_app LZ,JY⟩
 ·obtain⟨hi,ha'⟩:=fO hn ha;exact(h.wk g hg i a c ha' hc hs hw).app u
 ·obtain⟨hi,ha'⟩:=fO hn ha;exact g?_app (h.ow g hg i a c ha' hc ho)
 ·obtain⟨x,c,hx,_⟩:=ze h3;obtain⟨hi,_⟩:=fO hn hx;have LZ:t.g? i=some g:=by rw[←g?_old (u:=u) hi];exact h1
  rcases h.over i g LZ h2 (ri hi h3) with⟨j,hj,hb⟩|L6
  ·exact .inl ⟨j,g?_app hj,hb_app u hb⟩
  ·exact .inr L6
 ·rw[Deaf_other t hk0 u fun op hop=>(hu op hop).1];exact h.hears
 ·rw[Deaf_other t (g:=g) (g':=k) (fun e=>hk (by subst e;exact hg)) u fun op hop=>(hu op hop).1];exact h.tT g hg
theorem Inv.slip(h:Inv P c0 c1 S0 O0 gm L gs w t q){i:Nat}{y:aF}(hi:gs[i]?=some y)(kG:0<i)(hrun:y.status=.running)(ha : ¬act L i)(sl:Option (Nat × Nat)) :
  ∃gs' ops q',runT P (qT gs w sl) i=(.next (qT gs' w sl),ops)∧Inv P c0 c1 S0 O0 gm L gs' w (t ++ ops) q'∧gs'.size=gs.size∧sumTo gs.size q'<sumTo gs.size q:=by
 have hq:=h.old i y kG hi ha;have hi0:(i==0)=false:=by simp;omega
 have hlt:i<gs.size:=(aj.1 hi).1;cases WU:q i with
 |zero=>rw[WU] at hq;rw[hq.1] at hrun;cases hrun
 |succ k=>
  rw[WU] at hq;rcases hq with⟨hf,_⟩|⟨_,g',es,hm,WM,hq'⟩
  ·rw[hf] at hrun;cases hrun
  have jY:=Co (P:=P) (sl:=sl) (i:=i) hi (by rw[hi0];exact WM w);rw[h.woken h.BH h.BG] at jY
  have acV:sumTo gs.size (upd q i k)+(k+1)=sumTo gs.size q+k:=by
   have:=sumTo_upd q k id hlt;simpa [WU] using this
  have E9 : ∀op∈iL i y.frame.fn y.frame.place es,op.g=i∧op.act.touch?=none∧op.act.low w.heap.size:=fun op hop=>by
   obtain⟨e,he,rfl⟩:=AY hop;exact⟨rfl,touch_mute (hm e he),low_mute (hm e he) _⟩
  refine⟨_,_,upd q i k,jY,⟨?_,fun x hx=>?_,h.ws,h.nodup,fun j z hj hz hna=>?_,fun j hj=>?_,h.pt.PI ha (by omega) E9,h.geo,h.BH,h.BG,h.ne,h.Y0,h.Y8⟩,by simp,by omega⟩
  ·rw[aD (by omega)];exact h.zero
  ·have hne:i≠x.id:=fun e=>ha ⟨x,hx,e.symm⟩;rw[aD hne];exact h.slot x hx
  ·by_cases Ue:i=j
   ·subst Ue;rw[a7 hlt] at hz;obtain rfl:=bt hz;rw[upd_same,Deaf_own];exact hq'
   ·rw[aD Ue] at hz;rw[upd_ne q k (AV Ue),Deaf_other t Ue _ (fun op hop=>(E9 op hop).1)];exact h.old j z hj hz hna
  ·have hj':gs.size≤j:=by simpa using hj
   rw[Deaf_other t (g':=i) (by omega) _ (fun op hop=>(E9 op hop).1)];exact h.above j hj'
theorem Inv.Wx(h:Inv P c0 c1 S0 O0 gm L gs w t q){g2:aF}{w2:ar}{es:Array gy}(wO:IW S0 O0 w w2 es)(hrun:g2.status=.running)(fn:eD)(pos:String) :
  Inv P c0 c1 S0 (own O0 w w2) g2 (L.map (X.at w2)) (gs.setIfInBounds 0 g2) w2 (t ++ iL 0 fn pos es) q:=by
 have hgrow:=wO.grow;have LY:0<gs.size:=h.size;have Yg:c0<w.heap.size:=by obtain⟨s,tm,e⟩:=h.BH;exact eY e
 have Yf:c1<w.heap.size:=by obtain⟨s,tm,e⟩:=h.BG;exact eY e
 have QL : ∀c,own O0 w w2 c→c<w2.heap.size:=fun c hc=>by
  rcases hc with hc|hc
  ·have:=(h.geo.Hq c (.inr hc)).1;omega
  ·exact hc.2
 have VU : ∀z∈L,iD (fun c=>z.S c∨z.O c) w w2:=fun z hz=>⟨hgrow,fun c hc=>wO.keep c (h.geo.lt z hz c hc).1 fun ho=>by
  have:=h.geo.mw z hz c ho;exact hc.elim this.1 this.2⟩
 have ch : ∀c,c<w.heap.size→(∀c',O0 c'→c'≠c)→Chan c w→Chan c w2:=fun c hcl hno ⟨s,tm,e⟩=>⟨s,tm,by rw[wO.keep c hcl (fun ho=>hno c ho rfl)];exact e⟩
 have E9:=Dx (k:=0) (fn:=fn) (pos:=pos) wO.evs (B:=w2.heap.size) fun c hc=>by
  rcases hc with hc|hc
  ·have:=(h.geo.Hq c (.inl hc)).1;omega
  ·exact QL c hc
 have T4:=h.pt.app0 hgrow E9
  (fun g ⟨y0,PR,acJ⟩ c hc ⟨y,hy,TV,ho⟩=>by
   rcases hc with hc|hc|hc
   ·exact h.geo.wm y hy c ho hc
   ·exact(h.geo.mw y hy c hc).2 ho
   ·have:=(h.geo.lt y hy c (.inr ho)).1;omega)
  (fun g ⟨y0,PR,acJ⟩ c hc ⟨y,hy,TV,hs⟩=>by
   rcases hc with hc|hc
   ·exact(h.geo.mw y hy c hc).1 hs
   ·have:=(h.geo.lt y hy c (.inl hs)).1;omega)
 have I2 : ∀i,Deaf (t ++ iL 0 fn pos es) i=Deaf t i:=fun i=>iE _ _ _ fun op hop=>(E9 op hop).2.2.1;refine⟨?_,fun y hy=>?_,fun y hy=>?_,by rw[Rf];exact h.nodup,fun i g hi hg ha=>?_,fun j hj=>?_,?_,?_,ch c0 Yg (fun c' hc'=>(h.geo.Hq c' (.inr hc')).2.1) h.BH,ch c1 Yf (fun c' hc'=>(h.geo.Hq c' (.inr hc')).2.2) h.BG,h.ne,fun g g' w' _ _=>woken_run hrun,.inl hrun⟩
 ·rw[a7 LY]
 ·obtain⟨x,hx,rfl⟩:=nY.1 hy;have hs:=h.slot x hx;refine⟨?_,hs.2⟩;show(gs.setIfInBounds 0 g2)[x.id]?=_;rw[aD (by have:=hs.2;omega)];exact hs.1
 ·obtain⟨x,hx,rfl⟩:=nY.1 hy;refine⟨(h.ws x hx).1.rely ?_,rfl⟩;rw[(h.ws x hx).2];exact VU x hx
 ·rw[aD (by omega)] at hg;rw[I2];exact h.old i g hi hg fun a=>ha (IP.2 a)
 ·rw[I2];exact h.above j (by simpa using hj)
 ·exact T4.congr (fun g=>IP) (fun g _ c=>VJ) fun g _ c=>VM
 ·have g1:=h.geo.at (w':=w2) hgrow;refine⟨fun c hc=>?_,fun c hs ho=>?_,g1.lt,g1.dj,fun x hx c ho=>?_,g1.wm,g1.ww⟩
  ·rcases hc with hc|hc|hc
   ·exact g1.Hq c (.inl hc)
   ·exact g1.Hq c (.inr hc)
   ·exact⟨hc.2,by omega,by omega⟩
  ·rcases ho with ho|ho
   ·exact h.geo.dj0 c hs ho
   ·have:=(h.geo.Hq c (.inl hs)).1;omega
  ·rcases ho with ho|ho
   ·exact g1.mw x hx c ho
   ·obtain⟨z,hz,rfl⟩:=nY.1 hx;exact⟨fun hs=>by have:=(h.geo.lt z hz c (.inl hs)).1;omega,fun hs=>by have:=(h.geo.lt z hz c (.inr hs)).1;omega⟩
theorem Inv.spawn(h:Inv P c0 c1 S0 O0 gm L gs w t q){g' child:aF}(hrun:g'.status=.running){Sk S' O':Nat→Prop}{b:Bool}{p:ak}(YJ : ∀c,Sk c→S0 c∨O0 c)(hS' : ∀c,S' c→S0 c∨O0 c)(XD : ∀c,O' c→O0 c∧¬Sk c∧¬S' c)(hp:gX P c0 c1 Sk p b (fun _=>False) child w){y z:MemOp}
  (hy:y.g=0∧y.act=.go gs.size) (hz:z.g=gs.size∧z.act=.start) :
  Inv P c0 c1 S' O' g' (L ++ [⟨gs.size,Sk,p,b,fun _=>False,child,w⟩]) ((gs.setIfInBounds 0 g').push child) w (t ++ #[y,z]) q:=by
 have LY:0<gs.size:=h.size;have J3 : ∀x∈L,x.id<gs.size:=fun x hx=>(aj.1 (h.slot x hx).1).1;have hna : ¬act L gs.size:=fun⟨x,hx,e⟩=>by have:=J3 x hx;omega
 have hw : ∀op∈#[y,z],od op:=fun op hop=>by
  simp only[fB,cC,eR,or_false] at hop;rcases hop with rfl|rfl
  ·exact⟨by rw[hy.2];simp,by rw[hy.2];simp⟩
  ·exact⟨by rw[hz.2];simp,by rw[hz.2];simp⟩
 have I2 : ∀i,Deaf (t ++ #[y,z]) i=Deaf t i:=fun i=>iE _ _ _ hw;have hmem : ∀ {x:X},x∈L ++ [⟨gs.size,Sk,p,b,fun _=>False,child,w⟩]↔x∈L∨x=⟨gs.size,Sk,p,b,fun _=>False,child,w⟩:=by intro x;simp
 have T4:=h.pt.spawn (ay _) hna (by omega) (h.above _ (ay _)) hy hz (Sk:=Sk) fun g ⟨x0,hx0,hg0⟩ c hc ⟨x,hx,Hy,ho⟩=>by
  rcases YJ c hc with hs|hs
  ·exact h.geo.wm x hx c ho hs
  ·exact(h.geo.mw x hx c hs).2 ho
 have aaH : ∀c,Sk c→c<w.heap.size∧c≠c0∧c≠c1:=fun c hc=>h.geo.Hq c (YJ c hc);refine⟨?_,fun x hx=>?_,fun x hx=>?_,?_,fun i g hi hg ha=>?_,fun j hj=>?_,?_,?_,h.BH,h.BG,h.ne,fun g g' w' _ _=>woken_run hrun,.inl hrun⟩
 ·rw[Array.getElem?_push_lt (by simpa using LY)];simp
 ·rcases hmem.1 hx with hx|rfl
  ·have hs:=h.slot x hx;have:=J3 x hx;refine⟨?_,hs.2⟩;rw[lD];rw[if_neg (by simp;omega),aD (by have:=hs.2;omega)];exact hs.1
  ·refine⟨?_,LY⟩;rw[lD];simp
 ·rcases hmem.1 hx with hx|rfl
  ·exact h.ws x hx
  ·exact⟨.run hp,rfl⟩
 ·simp only[gi,di,List.map_nil];rw[List.nodup_append];refine⟨h.nodup,by simp,fun a ha b hb e=>?_⟩;obtain⟨x,hx,rfl⟩:=eX.1 ha;simp only[mG] at hb;have:=J3 x hx;omega
 ·have hns:i≠gs.size:=fun e=>ha ⟨_,hmem.2 (.inr rfl),e.symm⟩;rw[lD,if_neg (by simp;omega),aD (by omega)] at hg;rw[I2];exact h.old i g hi hg fun⟨x,hx,e⟩=>ha ⟨x,hmem.2 (.inl hx),e⟩
 ·rw[I2];exact h.above j (by simp at hj;omega)
 ·refine T4.congr (fun g=>?_) (fun g hg c=>?_) fun g hg c=>?_
  ·constructor
   ·rintro⟨x,hx,rfl⟩;rcases hmem.1 hx with hx|rfl
    ·exact .inl ⟨x,hx,rfl⟩
    ·exact .inr rfl
   ·rintro(⟨x,hx,rfl⟩|rfl)
    ·exact⟨x,hmem.2 (.inl hx),rfl⟩
    ·exact⟨_,hmem.2 (.inr rfl),rfl⟩
  ·by_cases e:g=gs.size
   ·subst e;simp only[if_true];constructor
    ·rintro⟨x,hx,hxe,hs⟩;rcases hmem.1 hx with hx|rfl
     ·have:=J3 x hx;omega
     ·exact hs
    ·intro hs;exact⟨_,hmem.2 (.inr rfl),rfl,hs⟩
   ·simp only[e,if_false];constructor
    ·rintro⟨x,hx,rfl,hs⟩;rcases hmem.1 hx with hx|rfl
     ·exact⟨x,hx,rfl,hs⟩
     ·exact absurd rfl e
    ·rintro⟨x,hx,rfl,hs⟩;exact⟨x,hmem.2 (.inl hx),rfl,hs⟩
  ·by_cases e:g=gs.size
   ·subst e;simp only[if_true];constructor
    ·rintro⟨x,hx,hxe,hs⟩;rcases hmem.1 hx with hx|rfl
     ·have:=J3 x hx;omega
     ·exact hs
    ·intro hs;exact hs.elim
   ·simp only[e,if_false];constructor
    ·rintro⟨x,hx,rfl,hs⟩;rcases hmem.1 hx with hx|rfl
     ·exact⟨x,hx,rfl,hs⟩
     ·exact absurd rfl e
    ·rintro⟨x,hx,rfl,hs⟩;exact⟨x,hmem.2 (.inl hx),rfl,hs⟩
 ·have lift : ∀ {Q:X→Prop},(∀x∈L,Q x)→Q ⟨gs.size,Sk,p,b,fun _=>False,child,w⟩→∀x∈L ++ [⟨gs.size,Sk,p,b,fun _=>False,child,w⟩],Q x:=fun h1 h2 x hx=>by
   rcases hmem.1 hx with hx|rfl
   ·exact h1 x hx
   ·exact h2
  refine⟨fun c hc=>h.geo.Hq c (hc.elim (hS' c) fun h=>.inr (XD c h).1),fun c hs ho=>(XD c ho).2.2 hs,lift h.geo.lt fun c hc=>aaH c (by simpa using hc),lift h.geo.dj fun c _ ho=>ho,lift (fun x hx c ho=>h.geo.mw x hx c (XD c ho).1) fun c ho=>⟨(XD c ho).2.1,fun hf=>hf⟩,
   lift (fun x hx c ho hs=>?_) fun c ho=>ho.elim,lift (fun x hx=>lift (fun x' hx' he c ho=>h.geo.ww x hx x' hx' he c ho) fun he c ho=>⟨fun hs=>?_,fun hf=>hf⟩) (lift (fun x hx he c ho=>ho.elim) fun he c ho=>ho.elim)⟩
  ·rcases hS' c hs with hs|hs
   ·exact h.geo.wm x hx c ho hs
   ·exact(h.geo.mw x hx c hs).2 ho
  ·rcases YJ c hs with hs|hs
   ·exact h.geo.wm x hx c ho hs
   ·exact(h.geo.mw x hx c hs).2 ho
end
section
variable{α:Type}{D E:α→α→Prop}
theorem oY.CC{f:α→α} : ∀l:List α,(∀x∈l,E (f x) x)→oY E (l.map f) l
 |[],_=>.nil
 |x :: l,h=>.cons (h x (by simp)) (oY.CC l fun y hy=>h y (by simp[hy]))
theorem LT.QW{f:α→α}{x x':α}(hd:D x' x){l2:List α}(h2 : ∀z∈l2,E (f z) z) : ∀ {l1:List α},(∀z∈l1,E (f z) z)→LT D E (l1.map f ++ x' :: l2.map f) (l1 ++ x :: l2)
 |[],_=>.head hd (.CC l2 h2)
 |y :: l,h=>.tail (h y (by simp)) (LT.QW hd h2 fun z hz=>h z (by simp[hz]))
end
def zT(w:ar):(Nat→Question→Nat) × Os × Array (Nat × ByteArray):=(w.tape,w.os,w.output)
theorem IW.zT{S O:Nat→Prop}{w w':ar}{es:Array gy}(h:IW S O w w' es):Lag.zT w'=Lag.zT w:=by
 simp only[Lag.zT,h.tape,h.os,h.out]
def Goal(P:aN)(Fin:List ak→List ak→(Nat→Prop)→(Nat→Prop)→aF→ar→Prop)(gs:Array aF)(w:ar)(sl:Option (Nat × Nat))(t:Trace):Prop:=
 ∃N gs' g' w' sl' t' q' acc out S O,runNT P N (qT gs w sl) t=(.next (qT gs' w' sl'),t')∧Beside P gs' g' w' t' q'∧Fin acc out S O g' w'∧out.Perm acc∧zT w'=zT w∧w.heap.size≤w'.heap.size
def pend(L:List X):List Value:=(L.filter (·.b)).map (·.p)
structure AO(L:List X)(f m:Nat)(acc out:List ak):Prop where
 m:L.length=m
 f:(pend L).length=f
 perm:(out ++ pend L).Perm acc
section
variable{P:aN}{c0 c1:Nat}{z0 z1:ak}{Fin:List ak→List ak→(Nat→Prop)→(Nat→Prop)→aF→ar→Prop}{S0 O0:Nat→Prop}{gm:aF}{L l1 l2:List X}{x x2:X}{gs gs':Array aF}{w w':ar}{t:Trace}{q:Nat→Nat}
 {sl sl':Option (Nat × Nat)} {f m:Nat} {acc out:List ak} {ops:Array MemOp}
theorem Goal.step(h:stepT P (qT gs w sl)=(.next (qT gs' w' sl'),ops))(ht:zT w'=zT w)(hs:w.heap.size≤w'.heap.size)(hg:Goal P Fin gs' w' sl' (t ++ ops)):Goal P Fin gs w sl t:=by
 obtain⟨N,XK,g2,w2,VS,t2,q2,acc,out,S,O,h1,h2,h3,h4,h5,h6⟩:=hg;exact⟨N+1,XK,g2,w2,VS,t2,q2,acc,out,S,O,by simp only[runNT,h];exact h1,h2,h3,h4,h5.trans ht,Nat.le_trans hs h6⟩
theorem qx(a b:List X):pend (a ++ b)=pend a ++ pend b:=by simp[pend]
theorem qX(a:List X):pend (a.map (X.at w))=pend a:=by
 induction a with
 |nil=>rfl
 |cons y a ih=>
  unfold pend at ih ⊢;simp only[di,List.filter_cons];have e:(X.at w y).b=y.b:=rfl;rw[e];cases y.b
  ·simpa using ih
  ·simp only[if_true,di,ih];rfl
theorem qf(a:List X):pend (x :: a)=(if x.b then[x.p] else[]) ++ pend a:=by
 unfold pend;cases h:x.b<;>simp[List.filter_cons,h]
theorem TD : ∀L:List X,(pend L).length≤L.length:=by
 intro L;unfold pend;rw[List.length_map];exact List.length_filter_le _ _
theorem AO.mem(h:AO (l1 ++ x :: l2) f m acc out)(hb:x.b=true):x.p∈acc:=by
 refine h.perm.mem_iff.1 ?_;simp[pend,hb]
theorem AO.le(h:AO L f m acc out):f≤m:=by rw[←h.m,←h.f];exact TD L
theorem AO.at(h:AO L f m acc out)(w:ar):AO (L.map (X.at w)) f m acc out:=⟨by simpa using h.m,by rw[qX];exact h.f,by rw[qX];exact h.perm⟩
theorem AO.mid(h:AO (l1 ++ x :: l2) f m acc out)(hb:x2.b=x.b)(hp:x2.p=x.p)(w:ar):AO (l1.map (X.at w) ++ x2 :: l2.map (X.at w)) f m acc out:=by
 have e:pend (l1.map (X.at w) ++ x2 :: l2.map (X.at w))=pend (l1 ++ x :: l2):=by
  rw[qx,qx,qf,qf,qX,qX,hb,hp]
 exact⟨by have:=h.m;simp at this ⊢;exact this,by rw[e];exact h.f,by rw[e];exact h.perm⟩
theorem AO.found(h:AO (l1 ++ x :: l2) f m acc out)(hb:x.b=true)(hb2:x2.b=false)(w:ar) : ∃f',f=f'+1∧AO (l1.map (X.at w) ++ x2 :: l2.map (X.at w)) f' m acc (out ++ [x.p]):=by
 have e:pend (l1.map (X.at w) ++ x2 :: l2.map (X.at w))=pend l1 ++ pend l2:=by
  rw[qx,qf,qX,qX,hb2];simp
 have e2:pend (l1 ++ x :: l2)=pend l1 ++ x.p :: pend l2:=by rw[qx,qf,hb];simp
 have hf:=h.f;rw[e2] at hf;simp only[List.length_append,List.length_cons] at hf;refine⟨(pend l1).length+(pend l2).length,by omega,by have:=h.m;simp at this ⊢;exact this,by rw[e];simp,?_⟩;rw[e];refine List.Perm.trans ?_ h.perm;rw[e2];simp only[List.append_assoc];refine List.Perm.append_left out ?_;show(x.p :: (pend l1 ++ pend l2)).Perm _;exact List.perm_middle.symm
theorem AO.last(h:AO (l1 ++ x :: l2) f (m+1) acc out)(hb:x.b=false)(w:ar):AO (l1.map (X.at w) ++ l2.map (X.at w)) f m acc out:=by
 have e:pend (l1.map (X.at w) ++ l2.map (X.at w))=pend (l1 ++ x :: l2):=by
  rw[qx,qx,qf,qX,qX,hb];simp
 exact⟨by have:=h.m;simp at this ⊢;omega,by rw[e];exact h.f,by rw[e];exact h.perm⟩
theorem AO.more(h:AO L f m acc out):AO (L ++ [x]) (f+x.b.toNat) (m+1) (acc ++ if x.b then[x.p] else[]) out:=by
 have e:pend (L ++ [x])=pend L ++ (if x.b then[x.p] else[]):=by rw[qx,qf];simp[pend]
 refine⟨by have:=h.m;simp;exact this,?_,?_⟩
 ·rw[e];have:=h.f;cases x.b<;>simp[this]
 ·rw[e,←List.append_assoc];exact h.perm.append_right _
theorem SA(h:WS P c0 c1 x):Acc (Dn P c0) x:=by
 cases h with
 |run h=>exact AH P c0 c1 h x.id
 |@ui g hb ha hp he=>
  have h2:gX P c0 c1 x.S x.p true x.O g x.w:=.A7 ha hp;have xE:=AH P c0 c1 h2 x.id;refine xE.inv (.yr ha ?_);refine⟨x.w,.refl _ _,?_⟩;rw[←he,←hb];rfl
 |@uh g n hb ha hq he=>
  have h2:gX P c0 c1 x.S x.p false x.O g x.w:=.A6 ha hq;have xE:=AH P c0 c1 h2 x.id;refine xE.inv (.yr ha ?_);refine⟨x.w,.refl _ _,?_⟩;rw[←he,←hb];rfl
theorem Inv.Wq(h:Inv P c0 c1 S0 O0 gm L gs w t q)(hrun:gm.status≠.blocked)(i c:Nat):wI (gs.setIfInBounds i ph) c false=[]:=by
 refine partners_nil fun j y hy=>?_;rcases getElem?_stand gs i j y hy with⟨_,rfl⟩|⟨_,hy⟩
 ·exact offersAt_ph _ _
 ·rcases jg j with rfl|kG
  ·rw[h.zero] at hy;cases hy;exact mQ hrun _ _
  ·by_cases ha:act L j
   ·obtain⟨x,hx,rfl⟩:=ha;rw[(h.slot x hx).1] at hy;cases hy;cases(h.ws x hx).1 with
    |run hp=>exact mQ (by rw[hp.running];simp) _ _
    |ui _ _ _ e=>rw[e];exact offersAt_parked_send' _ _ _ _ _ _
    |uh _ _ _ e=>rw[e];exact offersAt_parked_send' _ _ _ _ _ _
   ·exact mQ (by rcases(h.old j y kG hy ha).status with e|e<;>rw[e]<;>simp) _ _
theorem wK(hw:x.w=w){w2:ar}(hr:iD (fun c=>x.S c∨x.O c) w w2):Sh (x.at w2) x:=⟨w2,by rw[hw];exact hr,rfl⟩
theorem Inv.yr(h:Inv P c0 c1 S0 O0 gm (l1 ++ x :: l2) gs w t q)(hrun:gm.status=.running){c:Nat}{v:ak}(ha:AtSend P c v x.g)(hc:c=c0∨c=c1)(I1:WS P c0 c1 { x with g:=iI x.g #[nJ c v zS] .send })(sl:Option (Nat × Nat)) :
  ∃gs',runT P (qT gs w sl) x.id=(.next (qT gs' w sl),#[])∧Inv P c0 c1 S0 O0 gm (l1.map (X.at w) ++ { x with g:=iI x.g #[nJ c v zS] .send } :: l2.map (X.at w)) gs' w t q:=by
 have hx:=nu (x:=x) (l1:=l1) (l2:=l2);have hs:=h.slot x hx;have hlt:x.id<gs.size:=(aj.1 hs.1).1;have hch:Chan c w:=hc.elim (fun e=>e▸h.BH) fun e=>e▸h.BG;obtain⟨s,tm,hch⟩:=hch;have hid:(x.id==0)=false:=by have:=hs.2;simp;omega
 have jY:=crowd_waits (P:=P) (sl:=sl) hs.1 (show fK P (x.id==0) x.g w=_ by rw[hid];exact ha.2.2.2 w) (fun cc hcc=>by
  simp only[fB,mG] at hcc;subst hcc
  exact ways_send_none hch (Nat.zero_le _) (h.Wq (by rw[hrun];simp) _ _))
 refine⟨_,jY,?_⟩
 have:=(h.replace (x2:={ x with g:=iI x.g #[nJ c v zS] .send }) rfl rfl rfl I1 (h.ws x hx).2 (w':=w) (gm':=gm) (gs':=gs.setIfInBounds x.id (iI x.g #[nJ c v zS] .send)) (t':=t)
  (by rw[aD (by have:=hs.2;omega)];exact h.zero) (a7 hlt) (fun i _ hi=>aD (AV hi)) (by simp) rfl (fun _ _ _=>rfl) h.BH h.BG h.pt (fun _=>rfl) h.Y0 h.Y8).1
 exact this
theorem xo{wn:ar}(hrun:gm.status=.running)
  (aai : ∀L gs w sl t q,Inv P c0 c1 S0 O0 gm L gs w t q→AO L f m acc out→iD (fun c=>S0 c∨O0 c) wn w→∃gs' w' ops,runT P (qT gs w sl) 0=(.next (qT gs' w' sl),ops)∧zT w'=zT w∧w.heap.size≤w'.heap.size∧Goal P Fin gs' w' sl (t ++ ops)) :
  ∀L gs w sl t q,Inv P c0 c1 S0 O0 gm L gs w t q→AO L f m acc out→iD (fun c=>S0 c∨O0 c) wn w→Goal P Fin gs w sl t:=by
 have key : ∀L,Acc (LT (Dn P c0) Sh) L→∀M L0 gs w sl t q,oY Sh L0 L→sumTo gs.size q=M→Inv P c0 c1 S0 O0 gm L0 gs w t q→AO L0 f m acc out→iD (fun c=>S0 c∨O0 c) wn w→Goal P Fin gs w sl t:=by
  intro L hL
  induction hL with
  |intro L _ ZR=>
   intro M
   induction M using Nat.strongRecOn with
   |ind M ihM=>
    intro L0 gs w sl t q Ve hM hinv oN hrel;obtain⟨i,y,d1,C5,hi,hy,hst⟩:=crowd_pick (P:=P) (w:=w) (sl:=sl) hinv.awake ⟨0,gm,hinv.zero,hrun⟩;have fD:=hinv.draw (w':=w.at d1) rfl;have sx:=oN.at (w.at d1);have wN:iD (fun c=>S0 c∨O0 c) wn (w.at d1):=hrel.trans (r7 rfl);have H4:oY Sh (L0.map (X.at (w.at d1))) L:=(oY.CC (f:=X.at (w.at d1)) L0 fun z hz=>wK (w2:=w.at d1) (hinv.ws z hz).2 (r7 rfl)).trans oI Ve;rcases jg i with rfl|kG
    ·obtain⟨gs',w',ops,h1,h2,h3,h4⟩:=aai _ gs (w.at d1) C5 t q fD sx wN;exact Goal.step (hst.trans h1) h2 h3 h4
    ·by_cases ha:act (L0.map (X.at (w.at d1))) i
     ·obtain⟨x,hx,rfl⟩:=ha;obtain⟨l1,l2,xu⟩:=List.append_of_mem hx;rw[xu] at fD sx H4;have Rh:=nu (x:=x) (l1:=l1) (l2:=l2);have OT:=fD.slot x Rh;rw[OT.1] at hi;have hyx:x.g=y:=bt hi;subst hyx;have hxw:=(fD.ws x Rh).2;have hid:(x.id==0)=false:=by simp;omega
      cases(fD.ws x Rh).1 with
      |ui _ _ _ e=>rw[e] at hy;cases hy
      |uh _ _ _ e=>rw[e] at hy;cases hy
      |run hp=>
       obtain⟨id,S,p,b,O,g,wx⟩:=x;dsimp only at hp hxw hy OT hid;subst hxw;cases hp with
       |step hr hd J0 Nu=>
        obtain⟨g2,w2,es,he,wO,hr2,hd2⟩:=J0 (w.at d1) (.refl _ _);have hwp:=Nu (w.at d1) (.refl _ _) g2 w2 es he;have jY:=Co (P:=P) (sl:=C5) (i:=id) OT.1 (by rw[hid];exact he);obtain⟨lM,vn⟩:=fD.P0 wO hwp g.frame.fn g.frame.place;rw[fD.woken lM.BH lM.BG] at jY
        have hlt:=LT.QW (D:=Dn P c0) (E:=Sh) (f:=X.at w2) (x:=⟨id,S,p,b,O,g,w.at d1⟩) (x':=⟨id,S,p,b,own O (w.at d1) w2,g2,w2⟩) (.step (w1:=w.at d1) (w2:=w2) (g2:=g2) (es:=es) hr (.refl _ _) he (mI _)) (l2:=l2)
         (fun z hz=>wK (fD.ws z (bO (bJ.2 (.inr hz)))).2 (by
          refine⟨wO.grow,fun c hc=>wO.keep c (fD.geo.lt z (bO (bJ.2 (.inr hz))) c hc).1 fun ho=>?_⟩;have hh:=fD.geo.ww _ Rh z (bO (bJ.2 (.inr hz))) (fun e=>nX fD.nodup z (bJ.2 (.inr hz)) e.symm) c ho
          exact hc.elim hh.1 hh.2)) (l1:=l1)
         (fun z hz=>wK (fD.ws z (bO (bJ.2 (.inl hz)))).2 (by
          refine⟨wO.grow,fun c hc=>wO.keep c (fD.geo.lt z (bO (bJ.2 (.inl hz))) c hc).1 fun ho=>?_⟩;have hh:=fD.geo.ww _ Rh z (bO (bJ.2 (.inl hz))) (fun e=>nX fD.nodup z (bJ.2 (.inl hz)) e.symm) c ho
          exact hc.elim hh.1 hh.2))
        refine Goal.step (hst.trans jY) wO.zT wO.grow ?_;exact ZR _ (hlt.shift oI (Eg P c0) H4) _ _ _ _ _ _ q (.refl mI _) rfl lM (sx.mid (x2:=⟨id,S,p,b,own O (w.at d1) w2,g2,w2⟩) rfl rfl w2) (wN.trans vn)
       |@A7 _ _ _ ha Z7=>
        obtain⟨gs',h1,h2⟩:=fD.yr hrun ha (.inl rfl) (.ui rfl ha Z7 rfl) C5;refine Goal.step (hst.trans h1) rfl (ay _) ?_
        have hlt:=LT.QW (D:=Dn P c0) (E:=Sh) (f:=X.at (w.at d1)) (x:=⟨id,S,p,true,O,g,w.at d1⟩) (x':=⟨id,S,p,true,O,iI g #[nJ c0 p zS] .send,w.at d1⟩) (.yr ha (mI _)) (l2:=l2)
         (fun z hz=>wK (fD.ws z (bO (bJ.2 (.inr hz)))).2 (.refl _ _)) (l1:=l1) (fun z hz=>wK (fD.ws z (bO (bJ.2 (.inl hz)))).2 (.refl _ _))
        rw[ep];exact ZR _ (hlt.shift oI (Eg P c0) H4) _ _ _ _ _ _ q (.refl mI _) rfl h2 (sx.mid (x2:=⟨id,S,p,true,O,iI g #[nJ c0 p zS] .send,w.at d1⟩) rfl rfl _) wN
       |@A6 _ _ _ n ha hq=>
        obtain⟨gs',h1,h2⟩:=fD.yr hrun ha (.inr rfl) (.uh rfl ha hq rfl) C5;refine Goal.step (hst.trans h1) rfl (ay _) ?_
        have hlt:=LT.QW (D:=Dn P c0) (E:=Sh) (f:=X.at (w.at d1)) (x:=⟨id,S,p,false,O,g,w.at d1⟩) (x':=⟨id,S,p,false,O,iI g #[nJ c1 (.bool true) zS] .send,w.at d1⟩) (.yr ha (mI _)) (l2:=l2)
         (fun z hz=>wK (fD.ws z (bO (bJ.2 (.inr hz)))).2 (.refl _ _)) (l1:=l1) (fun z hz=>wK (fD.ws z (bO (bJ.2 (.inl hz)))).2 (.refl _ _))
        rw[ep];exact ZR _ (hlt.shift oI (Eg P c0) H4) _ _ _ _ _ _ q (.refl mI _) rfl h2 (sx.mid (x2:=⟨id,S,p,false,O,iI g #[nJ c1 (.bool true) zS] .send,w.at d1⟩) rfl rfl _) wN
     ·obtain⟨gs',ops,q',h1,h2,h3,h4⟩:=fD.slip hi kG hy ha C5;refine Goal.step (hst.trans h1) rfl (ay _) ?_;exact ihM _ (by rw[h3,←hM];exact h4) _ _ _ _ _ q' H4 rfl h2 sx wN
 intro L gs w sl t q hinv oN hrel;exact key L (EF mI oI (Eg P c0) L fun x hx=>SA (hinv.ws x hx).1) _ L gs w sl t q (.refl mI _) rfl hinv oN hrel
end
section
variable{P:aN}{c0 c1:Nat}{z0 z1:ak}{Fin:List ak→List ak→(Nat→Prop)→(Nat→Prop)→aF→ar→Prop}{S0 O0:Nat→Prop}{gm:aF}{L l1 l2:List X}{x x2:X}{gs gs':Array aF}{w w':ar}{t u:Trace}{q:Nat→Nat}
 {sl sl':Option (Nat × Nat)} {f m:Nat} {acc out:List ak} {ops:Array MemOp}
theorem Jo(w:ar)(d c s:Nat)(tm:Bool){x:Obj}(hc:w.heap[c]?=some x):((w.at d).setChan c 0 #[] false s s tm).heap[c]?=some (.chan 0 #[] false s s tm):=by
 show((w.heap).setIfInBounds c _)[c]?=_;exact a7 (eY hc)
theorem tJ(w:ar)(d c s:Nat)(tm:Bool){b:Nat}(hb:b≠c):((w.at d).setChan c 0 #[] false s s tm).heap[b]?=w.heap[b]?:=by
 show((w.heap).setIfInBounds c _)[b]?=_;exact aD (AV hb)
theorem kE(w:ar)(d c s:Nat)(tm:Bool):((w.at d).setChan c 0 #[] false s s tm).heap.size=w.heap.size:=by
 show((w.heap).setIfInBounds c _).size=_;simp
theorem zi{c c' s:Nat}{tm:Bool}(d:Nat)(hc:w.heap[c]?=some (.chan 0 #[] false s s tm))(h:Chan c' w):Chan c' ((w.at d).setChan c 0 #[] false (s+1) (s+1) tm):=by
 by_cases e:c'=c
 ·subst e;exact⟨s+1,tm,Jo w d c' (s+1) tm hc⟩
 ·obtain⟨s',tm',h⟩:=h;exact⟨s',tm',by rw[tJ w d c (s+1) tm e];exact h⟩
theorem Inv.found(h:Inv P c0 c1 S0 O0 gm (l1 ++ x :: l2) gs w t q){g2:aF}(hp:gX P c0 c1 x.S x.p false x.O g2 x.w){s:Nat}{tm:Bool}(hc:w.heap[c0]?=some (.chan 0 #[] false s s tm))(d:Nat){gm':aF}(hrun:gm'.status=.running)
  (g0:gs'[0]?=some gm') (gx:gs'[x.id]?=some g2) (gr : ∀i,i≠0→i≠x.id→gs'[i]?=gs[i]?) (gz:gs'.size=gs.size) (hu:GG x.id c0 s u) :
  Inv P c0 c1 S0 O0 gm' (l1.map (X.at ((w.at d).setChan c0 0 #[] false (s+1) (s+1) tm)) ++ { x with b:=false,g:=g2,w:=(w.at d).setChan c0 0 #[] false (s+1) (s+1) tm } :: l2.map (X.at ((w.at d).setChan c0 0 #[] false (s+1) (s+1) tm))) gs' ((w.at d).setChan c0 0 #[] false (s+1) (s+1) tm) (t ++ u) q∧
   iD (fun c=>S0 c∨O0 c) w ((w.at d).setChan c0 0 #[] false (s+1) (s+1) tm):=by
 have hx:=nu (x:=x) (l1:=l1) (l2:=l2);have Rt:=hu.mute (B':=w.heap.size) (eY hc)
 refine h.replace (x2:={ x with b:=false,g:=g2,w:=(w.at d).setChan c0 0 #[] false (s+1) (s+1) tm }) rfl rfl rfl (.run (hp.rely _ _ _ ?_)) rfl g0 gx gr gz (kE ..) (fun c hc0 _=>tJ w d c0 (s+1) tm hc0) (zi d hc h.BH) (zi d hc h.BG)
  (h.pt.Za (ay _) hu (eY hc) ⟨x,hx,rfl⟩ fun g=>by simp) (fun i=>iE _ _ _ fun op hop=>(Rt op hop).2.1) (fun g g' w' _ _=>woken_run hrun) (.inl hrun)
 rw[(h.ws x hx).2];exact⟨Nat.le_of_eq (kE w d c0 (s+1) tm).symm,fun c hcc=>tJ w d c0 (s+1) tm (h.geo.lt x hx c hcc).2.1⟩
theorem Inv.last(h:Inv P c0 c1 S0 O0 gm (l1 ++ x :: l2) gs w t q){g2:aF}{n:Nat}(hq:QuitsD P n 0 g2){s:Nat}{tm:Bool}(hc:w.heap[c1]?=some (.chan 0 #[] false s s tm))(d:Nat){gm':aF}(hrun:gm'.status=.running)
  (g0:gs'[0]?=some gm') (gx:gs'[x.id]?=some g2) (gr : ∀i,i≠0→i≠x.id→gs'[i]?=gs[i]?) (gz:gs'.size=gs.size) (hu:GG x.id c1 s u) :
  Inv P c0 c1 S0 O0 gm' (l1.map (X.at ((w.at d).setChan c1 0 #[] false (s+1) (s+1) tm)) ++ l2.map (X.at ((w.at d).setChan c1 0 #[] false (s+1) (s+1) tm))) gs' ((w.at d).setChan c1 0 #[] false (s+1) (s+1) tm) (t ++ u) (upd q x.id n)∧
   iD (fun c=>S0 c∨O0 c) w ((w.at d).setChan c1 0 #[] false (s+1) (s+1) tm):=by
 have hx:=nu (x:=x) (l1:=l1) (l2:=l2);have Rt:=hu.mute (B':=w.heap.size) (eY hc)
 exact h.cut hq g0 gx gr gz (kE ..) (fun c _ hc1=>tJ w d c1 (s+1) tm hc1) (zi d hc h.BH) (zi d hc h.BG)
  (h.pt.N7 (ay _) hu (eY hc) ⟨x,hx,rfl⟩) (fun i=>iE _ _ _ fun op hop=>(Rt op hop).2.1) (fun g g' w' _ _=>woken_run hrun) (.inl hrun)
theorem Cu{i j:Nat}(S9:j≠i)(hi:i<gs.size)(hj:j<gs.size)(a b:aF):((gs.setIfInBounds j a).setIfInBounds i b)[i]?=some b∧((gs.setIfInBounds j a).setIfInBounds i b)[j]?=some a∧(∀k,k≠i→k≠j→((gs.setIfInBounds j a).setIfInBounds i b)[k]?=gs[k]?)∧((gs.setIfInBounds j a).setIfInBounds i b).size=gs.size:=by
 refine⟨a7 (by simpa using hi),?_,fun k h1 h2=>?_,by simp⟩
 ·rw[aD (AV S9),a7 hj]
 ·rw[aD (AV h1),aD (AV h2)]
theorem Dz(hne:c0≠c1)(g:aF):offersAt (iI g (jZ c0 c1 z0 z1) .select) c0 false=[0]∧offersAt (iI g (jZ c0 c1 z0 z1) .select) c1 false=[1]:=by
 have hb:(c1==c0)=false:=beq_eq_false_iff_ne.2 (AV hne);have hb':(c0==c1)=false:=beq_eq_false_iff_ne.2 hne;constructor<;>simp[offersAt,iI,jZ,rcase,hne,AV hne]
theorem Inv.M9(h:Inv P c0 c1 S0 O0 (iI gm (jZ c0 c1 z0 z1) .select) L gs w t q){i:Nat}(hi:i≠0){c k:Nat}(ho:offersAt (iI gm (jZ c0 c1 z0 z1) .select) c false=[k]):wI (gs.setIfInBounds i ph) c false=[(0,k)]:=by
 have h0:(gs.setIfInBounds i ph)[0]?=some (iI gm (jZ c0 c1 z0 z1) .select):=by rw[aD hi];exact h.zero
 rw[partners_one h0 fun j y hj hy=>?_,ho]
 ·rfl
 ·rcases getElem?_stand gs i j y hy with⟨_,rfl⟩|⟨_,hy⟩
  ·exact offersAt_ph _ _
  ·by_cases ha:act L j
   ·obtain⟨x,hx,rfl⟩:=ha;rw[(h.slot x hx).1] at hy;cases hy;cases(h.ws x hx).1 with
    |run hp=>exact mQ (by rw[hp.running];simp) _ _
    |ui _ _ _ e=>rw[e];exact offersAt_parked_send' _ _ _ _ _ _
    |uh _ _ _ e=>rw[e];exact offersAt_parked_send' _ _ _ _ _ _
   ·exact mQ (by rcases(h.old j y (by omega) hy ha).status with e|e<;>rw[e]<;>simp) _ _
theorem Jh{wn:ar}
  (H0 : ∀v f',f=f'+1→v∈acc→∀w,iD (fun c=>S0 c∨O0 c) wn w→∀L gs sl t q,Inv P c0 c1 S0 O0 (iO P c0 c1 z0 z1 gm 0 v) L gs w t q→AO L f' (m+1) acc (out ++ [v])→Goal P Fin gs w sl t)
  (H1:f≤m→∀w,iD (fun c=>S0 c∨O0 c) wn w→∀L gs sl t q,Inv P c0 c1 S0 O0 (iO P c0 c1 z0 z1 gm 1 (.bool true)) L gs w t q→AO L f m acc out→Goal P Fin gs w sl t) :
  ∀L gs w sl t q,Inv P c0 c1 S0 O0 (iI gm (jZ c0 c1 z0 z1) .select) L gs w t q→AO L f (m+1) acc out→iD (fun c=>S0 c∨O0 c) wn w→(∀x∈L,x.g.status=.running)→Goal P Fin gs w sl t:=by
 have key : ∀L,Acc (LT (Dn P c0) Sh) L→∀M L0 gs w sl t q,oY Sh L0 L→sumTo gs.size q=M→Inv P c0 c1 S0 O0 (iI gm (jZ c0 c1 z0 z1) .select) L0 gs w t q→AO L0 f (m+1) acc out→iD (fun c=>S0 c∨O0 c) wn w→(∀x∈L0,x.g.status=.running)→Goal P Fin gs w sl t:=by
  intro L hL
  induction hL with
  |intro L _ ZR=>
   intro M
   induction M using Nat.strongRecOn with
   |ind M ihM=>
    intro L0 gs w sl t q Ve hM hinv oN hrel YB
    obtain⟨x0,hx0⟩ : ∃x,x∈L0:=by
     cases L0 with
     |nil=>have:=oN.m;simp at this
     |cons a l=>exact⟨a,by simp⟩
    obtain⟨i,y,d1,C5,hi,hy,hst⟩:=crowd_pick (P:=P) (w:=w) (sl:=sl) hinv.awake ⟨x0.id,x0.g,(hinv.slot x0 hx0).1,YB x0 hx0⟩;have fD:=hinv.draw (w':=w.at d1) rfl;have sx:=oN.at (w.at d1);have wN:iD (fun c=>S0 c∨O0 c) wn (w.at d1):=hrel.trans (r7 rfl)
    have WJ : ∀x∈L0.map (X.at (w.at d1)),x.g.status=.running:=fun x hx=>by
     obtain⟨z,hz,rfl⟩:=nY.1 hx;exact YB z hz
    have H4:oY Sh (L0.map (X.at (w.at d1))) L:=(oY.CC (f:=X.at (w.at d1)) L0 fun z hz=>wK (w2:=w.at d1) (hinv.ws z hz).2 (r7 rfl)).trans oI Ve;rcases jg i with rfl|kG
    ·rw[hinv.zero] at hi;cases hi;cases hy
    ·by_cases ha:act (L0.map (X.at (w.at d1))) i
     ·obtain⟨x,hx,rfl⟩:=ha;obtain⟨l1,l2,xu⟩:=List.append_of_mem hx;rw[xu] at fD sx H4 WJ;have Rh:=nu (x:=x) (l1:=l1) (l2:=l2);have OT:=fD.slot x Rh;rw[OT.1] at hi;have hyx:x.g=y:=bt hi;subst hyx;have hxw:=(fD.ws x Rh).2;have hid:(x.id==0)=false:=by simp;omega
      have Xa:x.id<gs.size:=(aj.1 OT.1).1;have O8:0<gs.size:=hinv.size;cases(fD.ws x Rh).1 with
      |ui _ _ _ e=>rw[e] at hy;cases hy
      |uh _ _ _ e=>rw[e] at hy;cases hy
      |run hp=>
       obtain⟨id,S,p,b,O,g,wx⟩:=x;dsimp only at hp hxw hy OT hid Xa kG;subst hxw;cases hp with
       |step hr hd J0 Nu=>
        obtain⟨g2,w2,es,he,wO,hr2,hd2⟩:=J0 (w.at d1) (.refl _ _);have hwp:=Nu (w.at d1) (.refl _ _) g2 w2 es he;have jY:=Co (P:=P) (sl:=C5) (i:=id) OT.1 (by rw[hid];exact he);obtain⟨lM,vn⟩:=fD.P0 wO hwp g.frame.fn g.frame.place;rw[fD.woken lM.BH lM.BG] at jY
        have hlt:=LT.QW (D:=Dn P c0) (E:=Sh) (f:=X.at w2) (x:=⟨id,S,p,b,O,g,w.at d1⟩) (x':=⟨id,S,p,b,own O (w.at d1) w2,g2,w2⟩) (.step (w1:=w.at d1) (w2:=w2) (g2:=g2) (es:=es) hr (.refl _ _) he (mI _)) (l2:=l2)
         (fun z hz=>wK (fD.ws z (bO (bJ.2 (.inr hz)))).2 (by
          refine⟨wO.grow,fun c hc=>wO.keep c (fD.geo.lt z (bO (bJ.2 (.inr hz))) c hc).1 fun ho=>?_⟩;have hh:=fD.geo.ww _ Rh z (bO (bJ.2 (.inr hz))) (fun e=>nX fD.nodup z (bJ.2 (.inr hz)) e.symm) c ho
          exact hc.elim hh.1 hh.2)) (l1:=l1)
         (fun z hz=>wK (fD.ws z (bO (bJ.2 (.inl hz)))).2 (by
          refine⟨wO.grow,fun c hc=>wO.keep c (fD.geo.lt z (bO (bJ.2 (.inl hz))) c hc).1 fun ho=>?_⟩;have hh:=fD.geo.ww _ Rh z (bO (bJ.2 (.inl hz))) (fun e=>nX fD.nodup z (bJ.2 (.inl hz)) e.symm) c ho
          exact hc.elim hh.1 hh.2))
        refine Goal.step (hst.trans jY) wO.zT wO.grow ?_;refine ZR _ (hlt.shift oI (Eg P c0) H4) _ _ _ _ _ _ q (.refl mI _) rfl lM (sx.mid (x2:=⟨id,S,p,b,own O (w.at d1) w2,g2,w2⟩) rfl rfl w2) (wN.trans vn) fun z hz=>?_;rcases gO.1 hz with rfl|⟨z',hz',rfl⟩
        ·exact hr2
        ·exact WJ z' (bO hz')
       |@A7 _ _ _ ha Z7=>
        obtain⟨s,tm,hch⟩:=fD.BH;have Rv:=crowd_send_meets_sel (P:=P) (sl:=C5) (j:=0) (k:=0) (gj:=gm) (cs:=jZ c0 c1 z0 z1) (shj:=.select) (zj:=z0) OT.1 (show fK P (id==0) g (w.at d1)=_ by rw[hid];exact ha.2.2.2 (w.at d1)) hch (by omega) fD.zero rfl (fD.M9 (by omega) (Dz fD.ne gm).1);obtain⟨e1,e2,e3,e4⟩:=Cu (gs:=gs) (i:=id) (j:=0) (by omega) Xa O8 (iO P c0 c1 z0 z1 gm 0 p) (fL g af);obtain⟨f',hf',yP⟩:=sx.found (x2:=⟨id,S,p,false,O,fL g af,(w.at d1).setChan c0 0 #[] false (s+1) (s+1) tm⟩) rfl rfl ((w.at d1).setChan c0 0 #[] false (s+1) (s+1) tm)
        obtain⟨lM,vn⟩:=fD.found (g2:=fL g af) Z7 hch d1 (gm':=iO P c0 c1 z0 z1 gm 0 p) rfl e2 e1 (fun i h1 h2=>e3 i h2 h1) e4 (u:=#[{ g:=id,fn:=g.frame.fn,pos:=g.frame.place,act:=.send c0 s },{ g:=0,fn:=gm.frame.fn,pos:=gm.frame.place,act:=.recv c0 s 0 },{ g:=id,fn:=g.frame.fn,pos:=g.frame.place,act:=.sendDone c0 s },{ g:=0,fn:=gm.frame.fn,pos:=gm.frame.place,act:=.recvDone c0 s }])
         ⟨_,_,_,_,_,_,_,_,_,rfl⟩
        refine Goal.step (hst.trans Rv) rfl (Nat.le_of_eq (kE w d1 c0 (s+1) tm).symm) ?_;exact H0 p f' hf' (sx.mem (x:=⟨id,S,p,true,O,g,w.at d1⟩) rfl) _ (wN.trans vn) _ _ _ _ q lM yP
       |@A6 _ _ _ n ha hq=>
        obtain⟨s,tm,hch⟩:=fD.BG;have Rv:=crowd_send_meets_sel (P:=P) (sl:=C5) (j:=0) (k:=1) (gj:=gm) (cs:=jZ c0 c1 z0 z1) (shj:=.select) (zj:=z1) OT.1 (show fK P (id==0) g (w.at d1)=_ by rw[hid];exact ha.2.2.2 (w.at d1)) hch (by omega) fD.zero rfl (fD.M9 (by omega) (Dz fD.ne gm).2);obtain⟨e1,e2,e3,e4⟩:=Cu (gs:=gs) (i:=id) (j:=0) (by omega) Xa O8 (iO P c0 c1 z0 z1 gm 1 (.bool true)) (fL g af);have yP:=sx.last rfl ((w.at d1).setChan c1 0 #[] false (s+1) (s+1) tm)
        obtain⟨lM,vn⟩:=fD.last (g2:=fL g af) hq hch d1 (gm':=iO P c0 c1 z0 z1 gm 1 (.bool true)) rfl e2 e1 (fun i h1 h2=>e3 i h2 h1) e4 (u:=#[{ g:=id,fn:=g.frame.fn,pos:=g.frame.place,act:=.send c1 s },{ g:=0,fn:=gm.frame.fn,pos:=gm.frame.place,act:=.recv c1 s 0 },{ g:=id,fn:=g.frame.fn,pos:=g.frame.place,act:=.sendDone c1 s },{ g:=0,fn:=gm.frame.fn,pos:=gm.frame.place,act:=.recvDone c1 s }])
         ⟨_,_,_,_,_,_,_,_,_,rfl⟩
        refine Goal.step (hst.trans Rv) rfl (Nat.le_of_eq (kE w d1 c1 (s+1) tm).symm) ?_;exact H1 yP.le _ (wN.trans vn) _ _ _ _ _ lM yP
     ·obtain⟨gs',ops,q',h1,h2,h3,h4⟩:=fD.slip hi kG hy ha C5;refine Goal.step (hst.trans h1) rfl (ay _) ?_;exact ihM _ (by rw[h3,←hM];exact h4) _ _ _ _ _ q' H4 rfl h2 sx wN WJ
 intro L gs w sl t q hinv oN hrel YB;exact key L (EF mI oI (Eg P c0) L fun x hx=>SA (hinv.ws x hx).1) _ L gs w sl t q (.refl mI _) rfl hinv oN hrel YB
end
section
variable{P:aN}{c0 c1:Nat}{z0 z1:ak}{Fin:List ak→List ak→(Nat→Prop)→(Nat→Prop)→aF→ar→Prop}{S0 O0:Nat→Prop}{gm:aF}{L l1 l2:List X}{x x2:X}{gs gs':Array aF}{w w':ar}{t u:Trace}{q:Nat→Nat}
 {sl sl':Option (Nat × Nat)} {f m:Nat} {acc out:List ak} {ops:Array MemOp}
theorem Inv.M5(h:Inv P c0 c1 S0 O0 gm L gs w t q){c j k:Nat}(hjk:(j,k)∈wI (gs.setIfInBounds 0 ph) c true) :
  k=0∧j≠0∧∃x∈L,x.id=j∧((c=c0∧x.b=true∧∃g,AtSend P c0 x.p g∧gX P c0 c1 x.S x.p false x.O (fL g af) x.w∧x.g=iI g #[nJ c0 x.p zS] .send)∨
   (c=c1∧x.b=false∧∃g n,AtSend P c1 (.bool true) g∧QuitsD P n 0 (fL g af)∧x.g=iI g #[nJ c1 (.bool true) zS] .send)):=by
 obtain⟨g,hg,hk⟩:=mem_partners.1 hjk;rcases getElem?_stand gs 0 j g hg with⟨_,rfl⟩|⟨hj,hg⟩
 ·rw[offersAt_ph] at hk;cases hk
 ·by_cases ha:act L j
  ·obtain⟨x,hx,rfl⟩:=ha;rw[(h.slot x hx).1] at hg;cases hg;cases(h.ws x hx).1 with
   |run hp=>rw[mQ (by rw[hp.running];simp)] at hk;cases hk
   |@ui g hb ha hp e=>
    rw[e,offersAt_parked_send] at hk;split at hk
    ·rename_i hc;simp only[mG] at hk;exact⟨hk,hj,x,hx,rfl,.inl ⟨hc.symm,hb,g,ha,hp,e⟩⟩
    ·cases hk
   |@uh g n hb ha hq e=>
    rw[e,offersAt_parked_send] at hk;split at hk
    ·rename_i hc;simp only[mG] at hk;exact⟨hk,hj,x,hx,rfl,.inr ⟨hc.symm,hb,g,n,ha,hq,e⟩⟩
    ·cases hk
  ·rw[mQ (by rcases(h.old j g (by omega) hg ha).status with e|e<;>rw[e]<;>simp)] at hk;cases hk
theorem FW{g gj:aF}{a b:Array CommCase}{sh Zb:CommShape}(h:iI g a sh=iI gj b Zb):fL gj af=fL g undef:=by
 have h1:g.frame=gj.frame:=by have:=congrArg Goroutine.frame h;exact this
 have h2:g.callers=gj.callers:=by have:=congrArg Goroutine.callers h;exact this
 have h3:g.dying=gj.dying:=by have:=congrArg Goroutine.dying h;exact this
 unfold fL;rw[h1,h2,h3]
theorem yo{g gj:aF}{a b:Array CommCase}{sh Zb:CommShape}(h:iI g a sh=iI gj b Zb):a=b∧sh=Zb:=by
 have:(iI g a sh).offers=(iI gj b Zb).offers:=by rw[h]
 simpa [iI] using this
theorem FZ{c c':Nat}{v v' z z':ak}(h:nJ c v z=nJ c' v' z'):c=c'∧v=v':=by
 simp only[nJ,CommCase.mk.injEq,Value.chan.injEq,lF] at h;exact⟨h.1,h.2.1⟩
theorem Ov{g:aF}{wn:ar}(h:fS P c0 c1 z0 z1 Fin f m acc out S0 O0 g wn) :
  ∀w,iD (fun c=>S0 c∨O0 c) wn w→∀L gs sl t q,Inv P c0 c1 S0 O0 g L gs w t q→AO L f m acc out→Goal P (fun acc out S O g w=>Fin acc out S O g w∧Chan c0 w∧Chan c1 w) gs w sl t:=by
 induction h with
 |@fin acc out S O g wn hs nH=>
  intro w hr L gs sl t q hinv oN;have hL:L=[]:=List.eq_nil_of_length_eq_zero oN.m;subst hL;have hno : ∀g,¬act [] g:=fun g ⟨x,hx,_⟩=>by cases hx
  refine⟨0,gs,g,w,sl,t,q,acc,out,S,O,rfl,⟨hinv.zero,⟨fun i y hi hy=>hinv.old i y hi hy (hno i),hinv.above⟩,hinv.pt.past hno⟩,⟨nH w hr,hinv.BH,hinv.BG⟩,?_,rfl,ay _⟩;have:=oN.perm;simpa [pend] using this
 |@step f m acc out S O g wn hr hd J0 Nu ih=>
  intro w hrel L gs sl t q hinv oN;refine xo (f:=f) (m:=m) (acc:=acc) (out:=out) (wn:=wn) hr (fun L gs w sl t q hinv oN hrel=>?_) L gs w sl t q hinv oN hrel;obtain⟨g2,w2,es,he,wO,hr2,hd2⟩:=J0 w hrel;have lM:=hinv.Wx wO hr2 g.frame.fn g.frame.place;have jY:=Co (P:=P) (sl:=sl) (i:=0) hinv.zero (show fK P (0==0) g w=_ from he);rw[hinv.woken lM.BH lM.BG] at jY;exact⟨_,_,_,jY,wO.zT,wO.grow,ih w hrel g2 w2 es he w2 (.refl _ _) _ _ sl _ q lM (oN.at w2)⟩
 |@spawn f m acc out S O Sk S' O' g g' child wn b p hgo hr2 hcr YJ hp hS' XD hm ih=>
  intro w hrel L gs sl t q hinv oN;refine xo (f:=f) (m:=m) (acc:=acc) (out:=out) (wn:=wn) hgo.1 (fun L gs w sl t q hinv oN hrel=>?_) L gs w sl t q hinv oN hrel;have jY:=runT_crowd_spawn (P:=P) (sl:=sl) (i:=0) hinv.zero (show fK P (0==0) g w=_ from hgo.2.2 w);have hpw:gX P c0 c1 Sk p b (fun _=>False) child w:=hp.rely _ _ _ ⟨hrel.grow,fun c hc=>hrel.keep c (YJ c (by simpa using hc))⟩;have lM:=hinv.spawn hr2 YJ hS' XD hpw (y:={ g:=0,fn:=g.frame.fn,pos:=g.frame.place,act:=.go gs.size }) (z:={ g:=gs.size,fn:=child.frame.fn,pos:=g.frame.place,act:=.start }) ⟨rfl,rfl⟩ ⟨rfl,rfl⟩;refine⟨_,_,_,jY,rfl,ay _,?_⟩;exact ih w ⟨hrel.grow,fun c hc=>hrel.keep c (hc.elim (hS' c) fun h=>.inr (XD c h).1)⟩ _ _ sl _ q lM (oN.more (x:=⟨gs.size,Sk,p,b,fun _=>False,child,w⟩))
 |@select f m acc out S O g wn T3 h0 h1 ih0 S5=>
  intro w hrel L gs sl t q hinv oN;refine xo (f:=f) (m:=m+1) (acc:=acc) (out:=out) (wn:=wn) T3.1 (fun L gs w sl t q hinv oN hrel=>?_) L gs w sl t q hinv oN hrel;have hst:fK P (0==0) g w=.comm g #[rcase c0 z0,rcase c1 z1] true .select w #[]:=T3.2.2.2 w;have O8:0<gs.size:=hinv.size;obtain⟨s0,tm0,hc0⟩:=hinv.BH;obtain⟨s1,tm1,hc1⟩:=hinv.BG
  by_cases hno:wI (gs.setIfInBounds 0 ph) c0 true=[]∧wI (gs.setIfInBounds 0 ph) c1 true=[]
  ·
   have jY:=crowd_waits (P:=P) (sl:=sl) hinv.zero hst (fun cc hcc=>by
    simp only[fB,cC,eR,or_false] at hcc;rcases hcc with rfl|rfl
    ·exact ways_recv_none hc0 hno.1
    ·exact ways_recv_none hc1 hno.2)
   have YB : ∀x∈L,x.g.status=.running:=fun x hx=>by
    have hs:=hinv.slot x hx;have hmem : ∀c k,k∈offersAt x.g c true→(x.id,k)∈wI (gs.setIfInBounds 0 ph) c true:=fun c k hk=>mem_partners.2 ⟨x.g,by rw[aD (by have:=hs.2;omega)];exact hs.1,hk⟩;cases(hinv.ws x hx).1 with
    |run hp=>exact hp.running
    |ui _ _ _ e=>
     have:=hmem c0 0 (by rw[e,offersAt_parked_send];simp);rw[hno.1] at this;cases this
    |uh _ _ _ e=>
     have:=hmem c1 0 (by rw[e,offersAt_parked_send];simp);rw[hno.2] at this;cases this
   have lM:Inv P c0 c1 S O (iI g (jZ c0 c1 z0 z1) .select) L (gs.setIfInBounds 0 (iI g (jZ c0 c1 z0 z1) .select)) w t q:=by
    refine⟨a7 O8,fun x hx=>⟨?_,(hinv.slot x hx).2⟩,hinv.ws,hinv.nodup,fun i y hi hy ha=>?_,fun j hj=>hinv.above j (by simpa using hj),hinv.pt,hinv.geo,hinv.BH,hinv.BG,hinv.ne,fun a a' w' hw0 hw1=>?_,.inr rfl⟩
    ·rw[aD (by have:=(hinv.slot x hx).2;omega)];exact(hinv.slot x hx).1
    ·rw[aD (by omega)] at hy;exact hinv.old i y hi hy ha
    ·have hag:(iI g (jZ c0 c1 z0 z1) .select).again w'=iI g (jZ c0 c1 z0 z1) .select:=by
      refine again_all_open fun cc hcc=>?_;obtain⟨s,tm,e0⟩:=hw0;obtain⟨s',tm',e1⟩:=hw1;simp only[jZ,fB,cC,eR,or_false] at hcc;rcases hcc with rfl|rfl
      ·exact⟨c0,z0,0,#[],s,s,tm,rfl,e0⟩
      ·exact⟨c1,z1,0,#[],s',s',tm',rfl,e1⟩
     unfold Conc.woken;split
     ·exact hag
     ·rfl
   refine⟨_,_,_,jY,rfl,ay _,?_⟩;exact Jh (P:=P) (f:=f) (m:=m) (acc:=acc) (out:=out) (wn:=wn) (fun v f' e hv w hr=>ih0 v f' e hv w hr) (fun hf w hr=>S5 hf w hr) L _ w sl _ q (by rw[show t ++ iL 0 g.frame.fn g.frame.place #[]=t from ep ..];exact lM) oN hrel YB
  ·
   obtain⟨kk,c,s,r,tm,j,gj,vj,zj,shj,d,D5,hj0,hgj,jY⟩:=Fh (P:=P) (sl:=sl) hinv.zero hst hc0 hc1
    (by
     rcases Classical.em (wI (gs.setIfInBounds 0 ph) c0 true=[]) with e|e
     ·exact .inr fun e'=>hno ⟨e,e'⟩
     ·exact .inl e)
    (fun c hc j k hjk=>by
     obtain⟨hk,hj,x,hx,rfl,JY⟩:=hinv.M5 hjk;refine⟨hk,hj,?_⟩;have hs:=(hinv.slot x hx).1;rcases JY with⟨rfl,_,g',_,_,e⟩|⟨rfl,_,g',_,_,_,e⟩
     ·exact⟨g',x.p,zS,.send,by rw[hs,e]⟩
     ·exact⟨g',.bool true,zS,.send,by rw[hs,e]⟩)
   have hcc:c=c0∨c=c1:=by rcases D5 with⟨_,h,_⟩|⟨_,h,_⟩<;>simp[h]
   have aan:j<gs.size:=(aj.1 hgj).1;have hmem:(j,0)∈wI (gs.setIfInBounds 0 ph) c true:=mem_partners.2 ⟨_,by rw[aD (AV hj0)];exact hgj,by rw[offersAt_parked_send];simp⟩;obtain⟨_,_,x,hx,rfl,JY⟩:=hinv.M5 hmem
   have Hy:x.g=iI gj #[nJ c vj zj] shj:=by
    have:=(hinv.slot x hx).1;rw[hgj] at this;exact(bt this).symm
   obtain⟨l1,l2,xu⟩:=List.append_of_mem hx;subst xu;rcases JY with⟨rfl,hb,g',ha,hp,e⟩|⟨rfl,hb,g',n,ha,hq,e⟩
   ·rw[e] at Hy;obtain⟨e1,e2⟩:=yo Hy;have e3:nJ c x.p zS=nJ c vj zj:=by simpa using e1
    obtain⟨_,rfl⟩:=FZ e3;subst e2
    have hk0:kk=0∧s=s0∧r=s0∧tm=tm0:=by
     rcases D5 with⟨h1,_,h2,h3,h4⟩|⟨_,h1,_⟩
     ·exact⟨h1,h2,h3,h4⟩
     ·exact absurd h1 hinv.ne
    obtain⟨rfl,rfl,rfl,rfl⟩:=hk0
    have nH:gj.finishComm P #[nJ c x.p zj] .send 0 af false=fL g' undef:=by
     rw[finishComm_send];exact FW Hy
    rw[nH] at jY;obtain⟨g1,g2,g3,g4⟩:=Cu (gs:=gs) (i:=0) (j:=x.id) hj0 O8 aan (fL g' af) (iO P c c1 z0 z1 g 0 x.p)
    obtain⟨lM,vn⟩:=hinv.found (g2:=fL g' af) hp hc0 d (gm':=iO P c c1 z0 z1 g 0 x.p) rfl g1 g2 (fun i a b=>g3 i a b) g4 (u:=#[{ g:=x.id,fn:=gj.frame.fn,pos:=gj.frame.place,act:=.send c r },{ g:=0,fn:=g.frame.fn,pos:=g.frame.place,act:=.recv c r 0 },{ g:=x.id,fn:=gj.frame.fn,pos:=gj.frame.place,act:=.sendDone c r },{ g:=0,fn:=g.frame.fn,pos:=g.frame.place,act:=.recvDone c r }])
     ⟨_,_,_,_,_,_,_,_,_,rfl⟩
    obtain⟨f',hf',yP⟩:=oN.found (x2:={ x with b:=false,g:=fL g' af,w:=(w.at d).setChan c 0 #[] false (r+1) (r+1) tm }) hb rfl ((w.at d).setChan c 0 #[] false (r+1) (r+1) tm);exact⟨_,_,_,jY,rfl,Nat.le_of_eq (kE w d c (r+1) tm).symm,ih0 x.p f' hf' (oN.mem hb) _ (hrel.trans vn) _ _ sl _ q lM yP⟩
   ·rw[e] at Hy;obtain⟨e1,e2⟩:=yo Hy;have e3:nJ c (.bool true) zS=nJ c vj zj:=by simpa using e1
    obtain⟨_,rfl⟩:=FZ e3;subst e2
    have hk0:kk=1∧s=s1∧r=s1∧tm=tm1:=by
     rcases D5 with⟨_,h1,_⟩|⟨h1,_,h2,h3,h4⟩
     ·exact absurd h1.symm hinv.ne
     ·exact⟨h1,h2,h3,h4⟩
    obtain⟨rfl,rfl,rfl,rfl⟩:=hk0
    have nH:gj.finishComm P #[nJ c (.bool true) zj] .send 0 af false=fL g' undef:=by
     rw[finishComm_send];exact FW Hy
    rw[nH] at jY;obtain⟨g1,g2,g3,g4⟩:=Cu (gs:=gs) (i:=0) (j:=x.id) hj0 O8 aan (fL g' af) (iO P c0 c z0 z1 g 1 (.bool true))
    obtain⟨lM,vn⟩:=hinv.last (g2:=fL g' af) hq hc1 d (gm':=iO P c0 c z0 z1 g 1 (.bool true)) rfl g1 g2 (fun i a b=>g3 i a b) g4 (u:=#[{ g:=x.id,fn:=gj.frame.fn,pos:=gj.frame.place,act:=.send c r },{ g:=0,fn:=g.frame.fn,pos:=g.frame.place,act:=.recv c r 0 },{ g:=x.id,fn:=gj.frame.fn,pos:=gj.frame.place,act:=.sendDone c r },{ g:=0,fn:=g.frame.fn,pos:=g.frame.place,act:=.recvDone c r }])
     ⟨_,_,_,_,_,_,_,_,_,rfl⟩
    have yP:=oN.last hb ((w.at d).setChan c 0 #[] false (r+1) (r+1) tm);exact⟨_,_,_,jY,rfl,Nat.le_of_eq (kE w d c (r+1) tm).symm,S5 yP.le _ (hrel.trans vn) _ _ sl _ _ lM yP⟩
theorem Hc(hne:c0≠c1){g:aF}{w:ar}(h:fS P c0 c1 z0 z1 Fin 0 0 [] [] S0 O0 g w)(hg:g.status=.running)(hc0:Chan c0 w)(hc1:Chan c1 w)(adG : ∀c,S0 c∨O0 c→c<w.heap.size∧c≠c0∧c≠c1)(hdj : ∀c,S0 c→¬O0 c) :
  qN P (fun g' w'=>∃acc out S O,(Fin acc out S O g' w'∧Chan c0 w'∧Chan c1 w')∧out.Perm acc∧w.heap.size≤w'.heap.size∧w'.os=w.os∧w'.output=w.output) g w:=by
 intro τ d gs sl t q hb;have hrel:iD (fun c=>S0 c∨O0 c) w (cX w τ d):=⟨ay _,fun _ _=>rfl⟩
 have hinv:Inv P c0 c1 S0 O0 g [] gs (cX w τ d) t q:=by
  refine⟨hb.zero,fun x hx=>(by cases hx),fun x hx=>(by cases hx),List.nodup_nil,fun i y hi hy _=>hb.old.old i y hi hy,hb.old.above,?_,?_,hc0,hc1,hne,fun _ _ _ _ _=>woken_run hg,.inl hg⟩
  ·exact(PT.TI (S:=SL []) (O:=OL []) hb.past).congr (fun g=>⟨fun⟨x,hx,_⟩=>(by cases hx),fun h=>h.elim⟩) (fun g hg=>hg.elim) fun g hg=>hg.elim
  ·exact⟨adG,hdj,fun x hx=>by(cases hx),fun x hx=>by(cases hx),fun x hx=>by(cases hx),fun x hx=>by(cases hx),fun x hx=>by(cases hx)⟩
 obtain⟨N,gs',g',w',sl',t',q',acc,out,S,O,h1,h2,h3,h4,h5,h6⟩:=Ov h _ hrel [] gs sl t q hinv ⟨rfl,rfl,by simp[pend]⟩;refine⟨N,gs',g',w',w'.drawn,sl',t',q',?_,h2,acc,out,S,O,h3,h4,h6,congrArg (·.2.1) h5,congrArg (·.2.2) h5⟩;rw[h1]
 have:w'=cX w' τ w'.drawn:=by
  have e:w'.tape=τ:=congrArg (·.1) h5;cases w';simp only at e;subst e;rfl
 rw[←this]
end
end Go.Lag
namespace Go.Proofs.YtffladgmkiimjaaGreatDoor
open Go.Lag
theorem Qk:Tryz.prog.funcs.all (fun fn=>fn.body.all eb)=true:=by kernel_rfl
theorem TA:Tryz.prog.follows .staticDataAhead=true:=by kernel_rfl
theorem M7:Tryz.prog.funcs.all (fun fn=>!(fn.name == "runtime.NumGoroutine"))=true:=by kernel_rfl
end Go.Proofs.YtffladgmkiimjaaGreatDoor
namespace Go.Lag
section
variable{P:aN}
theorem vU(s:String):Calm P Any (Extern.RuntimeError.text s):=trivial
theorem vX{α:Type}{Q:α→Prop}{c:Prop}[Decidable c]{t:c→Sem α}{e : ¬c→Sem α}(ht : ∀h,Calm P Q (t h))(he : ∀h,Calm P Q (e h)):Calm P Q (dite c t e):=by
 split
 ·exact ht _
 ·exact he _
theorem UC(o:Option String)(f:String→String):Calm P Any (match o with|some fmt=>Extern.RuntimeError.text (f fmt)|none=>stuck "boundsError: no such code"):=by
 cases o
 ·exact aY
 ·exact vU _
theorem Ar(args):Calm P Any (Extern.RuntimeError.boundsError args):=by
 unfold Extern.RuntimeError.boundsError
 delta Extern.RuntimeError.boundsError.match_2
 refine vX (c:=args.size=1) (fun h=>?_) fun h=>aY;obtain⟨l⟩:=args
 match l,h with
 |[a],h=>
  cases a with
  |agg cs=>
   refine vX (c:=cs.size=4) (fun h=>?_) fun h=>aY;obtain⟨l⟩:=cs
   match l,h with
   |[x0,x1,x2,x3],h=>
    cases x0 with
    |int _ _=>
     cases x1 with
     |int _ _=>
      cases x2 with
      |bool _=>
       cases x3 with
       |int _ _=>exact UC _ _
       |_=>exact aY
      |_=>exact aY
     |_=>exact aY
    |_=>exact aY
  |_=>exact aY
theorem vv(v):Calm P Any (Extern.RuntimeError.described v):=by
 unfold Extern.RuntimeError.described
 repeat' (first
   |with_reducible exact nz ..|with_reducible exact fe ..|with_reducible exact kY ..|with_reducible exact qG ..|with_reducible exact lN ..|with_reducible exact kI ..|with_reducible exact fR ..|with_reducible exact bG|with_reducible exact dS|with_reducible exact aY|with_reducible exact bz|with_reducible exact cJ|with_reducible exact dT|with_reducible exact dL|with_reducible exact en
   |with_reducible exact dM|with_reducible exact dR|with_reducible exact dA|with_reducible exact dx|with_reducible exact cS|with_reducible exact cG|with_reducible exact cQ|with_reducible exact dr
   |with_reducible exact(cR rfl)|with_reducible exact(cL rfl)
   |(with_reducible assumption)|(with_reducible apply dP;exact rfl)|(with_reducible refine dK ?_ (fun o ho=>by cases o<;>first|rfl|(revert ho;simp[dY];done)))|(refine cO (fun _ _=>?_) ?_)|(refine aP ?_ (fun _=>?_))|(refine eZ ?_)|(refine dZ (fun _=>?_) _)|(refine bV (fun _ _=>?_) _ _)|(refine bX (fun _ _=>?_) _ _)|(refine bW (fun _ _=>?_) _ _)|split|intro _|dsimp only|trivial)
theorem Es(i):Calm P Any (Extern.RuntimeError.pkgpathOf i):=by
 unfold Extern.RuntimeError.pkgpathOf
 repeat' (first
   |with_reducible exact nz ..|with_reducible exact fe ..|with_reducible exact kY ..|with_reducible exact qG ..|with_reducible exact lN ..|with_reducible exact kI ..|with_reducible exact fR ..|with_reducible exact bG|with_reducible exact dS|with_reducible exact aY|with_reducible exact bz|with_reducible exact cJ|with_reducible exact dT|with_reducible exact dL|with_reducible exact en
   |with_reducible exact dM|with_reducible exact dR|with_reducible exact dA|with_reducible exact dx|with_reducible exact cS|with_reducible exact cG|with_reducible exact cQ|with_reducible exact dr
   |with_reducible exact(cR rfl)|with_reducible exact(cL rfl)
   |(with_reducible assumption)|(with_reducible apply dP;exact rfl)|(with_reducible refine dK ?_ (fun o ho=>by cases o<;>first|rfl|(revert ho;simp[dY];done)))|(refine cO (fun _ _=>?_) ?_)|(refine aP ?_ (fun _=>?_))|(refine eZ ?_)|(refine dZ (fun _=>?_) _)|(refine bV (fun _ _=>?_) _ _)|(refine bX (fun _ _=>?_) _ _)|(refine bW (fun _ _=>?_) _ _)|split|intro _|dsimp only|trivial)
theorem sJ(args):Calm P Any (Extern.RuntimeError.typeAssertionError args):=by
 unfold Extern.RuntimeError.typeAssertionError
 repeat' (first
   |with_reducible exact nz ..|with_reducible exact fe ..|with_reducible exact kY ..|with_reducible exact qG ..|with_reducible exact lN ..|with_reducible exact kI ..|with_reducible exact fR ..|with_reducible exact vU ..|with_reducible exact vv ..|with_reducible exact Es ..|with_reducible exact bG|with_reducible exact dS|with_reducible exact aY|with_reducible exact bz|with_reducible exact cJ|with_reducible exact dT|with_reducible exact dL|with_reducible exact en
   |with_reducible exact dM|with_reducible exact dR|with_reducible exact dA|with_reducible exact dx|with_reducible exact cS|with_reducible exact cG|with_reducible exact cQ|with_reducible exact dr
   |with_reducible exact(cR rfl)|with_reducible exact(cL rfl)
   |(with_reducible assumption)|(with_reducible apply dP;exact rfl)|(with_reducible refine dK ?_ (fun o ho=>by cases o<;>first|rfl|(revert ho;simp[dY];done)))|(refine cO (fun _ _=>?_) ?_)|(refine aP ?_ (fun _=>?_))|(refine eZ ?_)|(refine dZ (fun _=>?_) _)|(refine bV (fun _ _=>?_) _ _)|(refine bX (fun _ _=>?_) _ _)|(refine bW (fun _ _=>?_) _ _)|split|intro _|dsimp only|trivial)
theorem Sp(o:Option TypeInfo):Calm P Any (match o with|some t=>Extern.RuntimeError.text ("hash of unhashable type: " ++ t.str)|_=>runtimePanic RuntimeError.nilDeref):=by
 cases o
 ·exact fR _
 ·exact vU _
theorem rI(args):Calm P Any (Extern.RuntimeError.unhashableTypeError args):=by
 unfold Extern.RuntimeError.unhashableTypeError
 delta Extern.RuntimeError.unhashableTypeError.match_1
 refine vX (c:=args.size=1) (fun h=>?_) fun h=>aY;obtain⟨l⟩:=args
 match l,h with
 |[a],h=>
  cases a with
  |agg cs=>
   refine vX (c:=cs.size=1) (fun h=>?_) fun h=>aY;obtain⟨l⟩:=cs
   match l,h with
   |[x0],h=>exact aP (vv _) fun o=>Sp o
  |_=>exact aY
structure UM(P:aN)(e:Option (Array ak→Sem ak)):Prop where
 ok : ∀x,e=some x→∀args,Calm P Any (x args)
theorem gp{f:eD}{fn:Func}(hf:P.funcs[f]?=some fn)(hb:fn.body=none)(hn:(fn.name == "runtime.NumGoroutine")=false)(h1:dh fn=none)(h2:UM P (gb fn))(args:Array ak):Calm P fq (fY f args):=by
 unfold fY;refine eT (R:=fun p=>p=P) (show P=P from rfl) ?_;rintro p rfl;rw[hf];have hb':fn.body.isNone=true:=by rw[hb];rfl
 simp only[hn,hb',h1,bF,if_false,if_true];refine aP (show Calm p Any (mark (.extern f)) from⟨.inr ⟨f,rfl⟩,trivial⟩) fun _=>?_;generalize gb fn=e at h2;cases e with
 |some e=>exact aP (h2.ok e rfl args) fun _=>trivial
 |none=>
  dsimp only;split
  ·exact trivial
  ·exact bz
end
end Go.Lag
namespace Go.Proofs.YtffladgmkiimjaaGreatDoor
open Go.Lag
theorem nb0{P:aN}(hP:P.funcs[(0:Nat)]?=some Tryz.f0)(args:Array ak):Go.Lag.Calm P Go.Lag.fq (fY (0:Nat) args):=by
 have h1:dh Tryz.f0=none:=by kernel_rfl
 have h2:gb Tryz.f0=none:=ld.1 (by kernel_rfl);have h3:Tryz.f0.body=none:=by kernel_rfl
 have h4:(Tryz.f0.name == "runtime.NumGoroutine")=false:=by kernel_rfl
 refine gp (P:=P) (f:=(0:Nat)) (fn:=Tryz.f0) hP h3 h4 h1 ⟨fun x hx=>?_⟩ args;rw[h2] at hx;cases hx
theorem nb1{P:aN}(hP:P.funcs[(1:Nat)]?=some Tryz.f1)(args:Array ak):Go.Lag.Calm P Go.Lag.fq (fY (1:Nat) args):=by
 have h1:dh Tryz.f1=none:=by kernel_rfl
 have h2:gb Tryz.f1=none:=ld.1 (by kernel_rfl);have h3:Tryz.f1.body=none:=by kernel_rfl
 have h4:(Tryz.f1.name == "runtime.NumGoroutine")=false:=by kernel_rfl
 refine gp (P:=P) (f:=(1:Nat)) (fn:=Tryz.f1) hP h3 h4 h1 ⟨fun x hx=>?_⟩ args;rw[h2] at hx;cases hx
theorem ZJ{P:aN}(hP:P.funcs[(202:Nat)]?=some Tryz.f202)(args:Array ak):Go.Lag.Calm P Go.Lag.fq (fY (202:Nat) args):=by
 have h1:dh Tryz.f202=none:=by kernel_rfl
 have h2:gb Tryz.f202=some Extern.RuntimeError.boundsError:=by kernel_rfl
 have h3:Tryz.f202.body=none:=by kernel_rfl
 have h4:(Tryz.f202.name == "runtime.NumGoroutine")=false:=by kernel_rfl
 refine gp (P:=P) (f:=(202:Nat)) (fn:=Tryz.f202) hP h3 h4 h1 ⟨fun x hx=>?_⟩ args;rw[h2] at hx;cases hx;exact Ar
theorem ZI{P:aN}(hP:P.funcs[(203:Nat)]?=some Tryz.f203)(args:Array ak):Go.Lag.Calm P Go.Lag.fq (fY (203:Nat) args):=by
 have h1:dh Tryz.f203=none:=by kernel_rfl
 have h2:gb Tryz.f203=some Extern.RuntimeError.nothing:=by kernel_rfl
 have h3:Tryz.f203.body=none:=by kernel_rfl
 have h4:(Tryz.f203.name == "runtime.NumGoroutine")=false:=by kernel_rfl
 refine gp (P:=P) (f:=(203:Nat)) (fn:=Tryz.f203) hP h3 h4 h1 ⟨fun x hx=>?_⟩ args;rw[h2] at hx;cases hx;exact fun args=>trivial
theorem ZH{P:aN}(hP:P.funcs[(204:Nat)]?=some Tryz.f204)(args:Array ak):Go.Lag.Calm P Go.Lag.fq (fY (204:Nat) args):=by
 have h1:dh Tryz.f204=none:=by kernel_rfl
 have h2:gb Tryz.f204=some (fun args=>do pure (.string ("runtime error: ".toUTF8 ++ (←asString (args.getD 0 (bM #[])))))):=by kernel_rfl
 have h3:Tryz.f204.body=none:=by kernel_rfl
 have h4:(Tryz.f204.name == "runtime.NumGoroutine")=false:=by kernel_rfl
 refine gp (P:=P) (f:=(204:Nat)) (fn:=Tryz.f204) hP h3 h4 h1 ⟨fun x hx=>?_⟩ args;rw[h2] at hx;cases hx;exact fun args=>aP (kY ..) fun _=>trivial
theorem ZG{P:aN}(hP:P.funcs[(205:Nat)]?=some Tryz.f205)(args:Array ak):Go.Lag.Calm P Go.Lag.fq (fY (205:Nat) args):=by
 have h1:dh Tryz.f205=none:=by kernel_rfl
 have h2:gb Tryz.f205=some Extern.RuntimeError.nothing:=by kernel_rfl
 have h3:Tryz.f205.body=none:=by kernel_rfl
 have h4:(Tryz.f205.name == "runtime.NumGoroutine")=false:=by kernel_rfl
 refine gp (P:=P) (f:=(205:Nat)) (fn:=Tryz.f205) hP h3 h4 h1 ⟨fun x hx=>?_⟩ args;rw[h2] at hx;cases hx;exact fun args=>trivial
theorem ZF{P:aN}(hP:P.funcs[(206:Nat)]?=some Tryz.f206)(args:Array ak):Go.Lag.Calm P Go.Lag.fq (fY (206:Nat) args):=by
 have h1:dh Tryz.f206=none:=by kernel_rfl
 have h2:gb Tryz.f206=some (fun args=>do pure (.string (←asString (args.getD 0 (bM #[]))))):=by kernel_rfl
 have h3:Tryz.f206.body=none:=by kernel_rfl
 have h4:(Tryz.f206.name == "runtime.NumGoroutine")=false:=by kernel_rfl
 refine gp (P:=P) (f:=(206:Nat)) (fn:=Tryz.f206) hP h3 h4 h1 ⟨fun x hx=>?_⟩ args;rw[h2] at hx;cases hx;exact fun args=>aP (kY ..) fun _=>trivial
theorem ZE{P:aN}(hP:P.funcs[(207:Nat)]?=some Tryz.f207)(args:Array ak):Go.Lag.Calm P Go.Lag.fq (fY (207:Nat) args):=by
 have h1:dh Tryz.f207=none:=by kernel_rfl
 have h2:gb Tryz.f207=some Extern.RuntimeError.nothing:=by kernel_rfl
 have h3:Tryz.f207.body=none:=by kernel_rfl
 have h4:(Tryz.f207.name == "runtime.NumGoroutine")=false:=by kernel_rfl
 refine gp (P:=P) (f:=(207:Nat)) (fn:=Tryz.f207) hP h3 h4 h1 ⟨fun x hx=>?_⟩ args;rw[h2] at hx;cases hx;exact fun args=>trivial
theorem ZC{P:aN}(hP:P.funcs[(208:Nat)]?=some Tryz.f208)(args:Array ak):Go.Lag.Calm P Go.Lag.fq (fY (208:Nat) args):=by
 have h1:dh Tryz.f208=none:=by kernel_rfl
 have h2:gb Tryz.f208=some (fun args=>do pure (.string ("runtime error: ".toUTF8 ++ (←asString ((←asAgg (args.getD 0 (bM #[]))).getD 0 (bM #[])))))):=by kernel_rfl
 have h3:Tryz.f208.body=none:=by kernel_rfl
 have h4:(Tryz.f208.name == "runtime.NumGoroutine")=false:=by kernel_rfl
 refine gp (P:=P) (f:=(208:Nat)) (fn:=Tryz.f208) hP h3 h4 h1 ⟨fun x hx=>?_⟩ args;rw[h2] at hx;cases hx;exact fun args=>aP (qG ..) fun _=>aP (kY ..) fun _=>trivial
theorem ZB{P:aN}(hP:P.funcs[(209:Nat)]?=some Tryz.f209)(args:Array ak):Go.Lag.Calm P Go.Lag.fq (fY (209:Nat) args):=by
 have h1:dh Tryz.f209=none:=by kernel_rfl
 have h2:gb Tryz.f209=some Extern.RuntimeError.nothing:=by kernel_rfl
 have h3:Tryz.f209.body=none:=by kernel_rfl
 have h4:(Tryz.f209.name == "runtime.NumGoroutine")=false:=by kernel_rfl
 refine gp (P:=P) (f:=(209:Nat)) (fn:=Tryz.f209) hP h3 h4 h1 ⟨fun x hx=>?_⟩ args;rw[h2] at hx;cases hx;exact fun args=>trivial
theorem ZA{P:aN}(hP:P.funcs[(210:Nat)]?=some Tryz.f210)(args:Array ak):Go.Lag.Calm P Go.Lag.fq (fY (210:Nat) args):=by
 have h1:dh Tryz.f210=none:=by kernel_rfl
 have h2:gb Tryz.f210=some Extern.RuntimeError.typeAssertionError:=by kernel_rfl
 have h3:Tryz.f210.body=none:=by kernel_rfl
 have h4:(Tryz.f210.name == "runtime.NumGoroutine")=false:=by kernel_rfl
 refine gp (P:=P) (f:=(210:Nat)) (fn:=Tryz.f210) hP h3 h4 h1 ⟨fun x hx=>?_⟩ args;rw[h2] at hx;cases hx;exact sJ
theorem Zz{P:aN}(hP:P.funcs[(211:Nat)]?=some Tryz.f211)(args:Array ak):Go.Lag.Calm P Go.Lag.fq (fY (211:Nat) args):=by
 have h1:dh Tryz.f211=none:=by kernel_rfl
 have h2:gb Tryz.f211=some Extern.RuntimeError.nothing:=by kernel_rfl
 have h3:Tryz.f211.body=none:=by kernel_rfl
 have h4:(Tryz.f211.name == "runtime.NumGoroutine")=false:=by kernel_rfl
 refine gp (P:=P) (f:=(211:Nat)) (fn:=Tryz.f211) hP h3 h4 h1 ⟨fun x hx=>?_⟩ args;rw[h2] at hx;cases hx;exact fun args=>trivial
theorem Zy{P:aN}(hP:P.funcs[(212:Nat)]?=some Tryz.f212)(args:Array ak):Go.Lag.Calm P Go.Lag.fq (fY (212:Nat) args):=by
 have h1:dh Tryz.f212=none:=by kernel_rfl
 have h2:gb Tryz.f212=some (fun _=>Extern.RuntimeError.text "runtime error: panic called with nil argument"):=by kernel_rfl
 have h3:Tryz.f212.body=none:=by kernel_rfl
 have h4:(Tryz.f212.name == "runtime.NumGoroutine")=false:=by kernel_rfl
 refine gp (P:=P) (f:=(212:Nat)) (fn:=Tryz.f212) hP h3 h4 h1 ⟨fun x hx=>?_⟩ args;rw[h2] at hx;cases hx;exact fun args=>vU _
theorem Zx{P:aN}(hP:P.funcs[(213:Nat)]?=some Tryz.f213)(args:Array ak):Go.Lag.Calm P Go.Lag.fq (fY (213:Nat) args):=by
 have h1:dh Tryz.f213=none:=by kernel_rfl
 have h2:gb Tryz.f213=some Extern.RuntimeError.nothing:=by kernel_rfl
 have h3:Tryz.f213.body=none:=by kernel_rfl
 have h4:(Tryz.f213.name == "runtime.NumGoroutine")=false:=by kernel_rfl
 refine gp (P:=P) (f:=(213:Nat)) (fn:=Tryz.f213) hP h3 h4 h1 ⟨fun x hx=>?_⟩ args;rw[h2] at hx;cases hx;exact fun args=>trivial
theorem Zw{P:aN}(hP:P.funcs[(214:Nat)]?=some Tryz.f214)(args:Array ak):Go.Lag.Calm P Go.Lag.fq (fY (214:Nat) args):=by
 have h1:dh Tryz.f214=none:=by kernel_rfl
 have h2:gb Tryz.f214=none:=ld.1 (by kernel_rfl);have h3:Tryz.f214.body=none:=by kernel_rfl
 have h4:(Tryz.f214.name == "runtime.NumGoroutine")=false:=by kernel_rfl
 refine gp (P:=P) (f:=(214:Nat)) (fn:=Tryz.f214) hP h3 h4 h1 ⟨fun x hx=>?_⟩ args;rw[h2] at hx;cases hx
theorem Zv{P:aN}(hP:P.funcs[(215:Nat)]?=some Tryz.f215)(args:Array ak):Go.Lag.Calm P Go.Lag.fq (fY (215:Nat) args):=by
 have h1:dh Tryz.f215=none:=by kernel_rfl
 have h2:gb Tryz.f215=some Extern.RuntimeError.unhashableTypeError:=by kernel_rfl
 have h3:Tryz.f215.body=none:=by kernel_rfl
 have h4:(Tryz.f215.name == "runtime.NumGoroutine")=false:=by kernel_rfl
 refine gp (P:=P) (f:=(215:Nat)) (fn:=Tryz.f215) hP h3 h4 h1 ⟨fun x hx=>?_⟩ args;rw[h2] at hx;cases hx;exact rI
theorem Zu{P:aN}(hP:P.funcs[(216:Nat)]?=some Tryz.f216)(args:Array ak):Go.Lag.Calm P Go.Lag.fq (fY (216:Nat) args):=by
 have h1:dh Tryz.f216=none:=by kernel_rfl
 have h2:gb Tryz.f216=some Extern.RuntimeError.nothing:=by kernel_rfl
 have h3:Tryz.f216.body=none:=by kernel_rfl
 have h4:(Tryz.f216.name == "runtime.NumGoroutine")=false:=by kernel_rfl
 refine gp (P:=P) (f:=(216:Nat)) (fn:=Tryz.f216) hP h3 h4 h1 ⟨fun x hx=>?_⟩ args;rw[h2] at hx;cases hx;exact fun args=>trivial
theorem Zt{P:aN}(hP:P.funcs[(217:Nat)]?=some Tryz.f217)(args:Array ak):Go.Lag.Calm P Go.Lag.fq (fY (217:Nat) args):=by
 have h1:dh Tryz.f217=none:=by kernel_rfl
 have h2:gb Tryz.f217=some (fun args=>do pure (strVal (Go.Extern.Rtype.kindName (←asInt (args.getD 0 (bM #[]))).toNat))):=by kernel_rfl
 have h3:Tryz.f217.body=none:=by kernel_rfl
 have h4:(Tryz.f217.name == "runtime.NumGoroutine")=false:=by kernel_rfl
 refine gp (P:=P) (f:=(217:Nat)) (fn:=Tryz.f217) hP h3 h4 h1 ⟨fun x hx=>?_⟩ args;rw[h2] at hx;cases hx;exact fun args=>aP (kI ..) fun _=>trivial
theorem Zs{P:aN}(hP:P.funcs[(227:Nat)]?=some Tryz.f227)(args:Array ak):Go.Lag.Calm P Go.Lag.fq (fY (227:Nat) args):=by
 have h1:dh Tryz.f227=none:=by kernel_rfl
 have h2:gb Tryz.f227=none:=ld.1 (by kernel_rfl);have h3:Tryz.f227.body=none:=by kernel_rfl
 have h4:(Tryz.f227.name == "runtime.NumGoroutine")=false:=by kernel_rfl
 refine gp (P:=P) (f:=(227:Nat)) (fn:=Tryz.f227) hP h3 h4 h1 ⟨fun x hx=>?_⟩ args;rw[h2] at hx;cases hx
theorem Zr{P:aN}(hP:P.funcs[(228:Nat)]?=some Tryz.f228)(args:Array ak):Go.Lag.Calm P Go.Lag.fq (fY (228:Nat) args):=by
 have h1:dh Tryz.f228=none:=by kernel_rfl
 have h2:gb Tryz.f228=none:=ld.1 (by kernel_rfl);have h3:Tryz.f228.body=none:=by kernel_rfl
 have h4:(Tryz.f228.name == "runtime.NumGoroutine")=false:=by kernel_rfl
 refine gp (P:=P) (f:=(228:Nat)) (fn:=Tryz.f228) hP h3 h4 h1 ⟨fun x hx=>?_⟩ args;rw[h2] at hx;cases hx
theorem Zq{P:aN}(hP:P.funcs[(229:Nat)]?=some Tryz.f229)(args:Array ak):Go.Lag.Calm P Go.Lag.fq (fY (229:Nat) args):=by
 have h1:dh Tryz.f229=none:=by kernel_rfl
 have h2:gb Tryz.f229=none:=ld.1 (by kernel_rfl);have h3:Tryz.f229.body=none:=by kernel_rfl
 have h4:(Tryz.f229.name == "runtime.NumGoroutine")=false:=by kernel_rfl
 refine gp (P:=P) (f:=(229:Nat)) (fn:=Tryz.f229) hP h3 h4 h1 ⟨fun x hx=>?_⟩ args;rw[h2] at hx;cases hx
def bl:List Nat:=[0,1,202,203,204,205,206,207,208,209,210,211,212,213,214,215,216,217,227,228,229]
theorem Qj:(List.range Tryz.prog.funcs.size).all (fun i=>(Tryz.prog.funcs[i]?.all (fun fn=>fn.body.isSome))||bl.contains i)=true:=by kernel_rfl
theorem Zh{P:aN}(e:P.funcs=Tryz.prog.funcs)(f:eD)(fn:Func)(args:Array ak)(hf:P.funcs[f]?=some fn)(hb:fn.body=none):Go.Lag.Calm P Go.Lag.fq (fY f args):=by
 rw[e] at hf;have hlt:f<Tryz.prog.funcs.size:=(aj.1 hf).1;have h:=bL.1 Qj f (List.mem_range.2 hlt);rw[hf] at h;simp only[Option.all_some,hb,Option.isSome_none,Bool.false_or] at h;have hm:f∈bl:=by simpa using h
 clear hf h hlt;have hx : ∀(n:Nat) (fN:Func),Tryz.prog.funcs[n]?=some fN→P.funcs[n]?=some fN:=fun n fN h=>by rw[e];exact h
 clear e;simp only[bl,cC,eR,or_false] at hm;rcases hm with rfl|rfl|rfl|rfl|rfl|rfl|rfl|rfl|rfl|rfl|rfl|rfl|rfl|rfl|rfl|rfl|rfl|rfl|rfl|rfl|rfl
 ·exact nb0 (hx _ _ Tryz.func0) args
 ·exact nb1 (hx _ _ Tryz.func1) args
 ·exact ZJ (hx _ _ Tryz.func202) args
 ·exact ZI (hx _ _ Tryz.func203) args
 ·exact ZH (hx _ _ Tryz.func204) args
 ·exact ZG (hx _ _ Tryz.func205) args
 ·exact ZF (hx _ _ Tryz.func206) args
 ·exact ZE (hx _ _ Tryz.func207) args
 ·exact ZC (hx _ _ Tryz.func208) args
 ·exact ZB (hx _ _ Tryz.func209) args
 ·exact ZA (hx _ _ Tryz.func210) args
 ·exact Zz (hx _ _ Tryz.func211) args
 ·exact Zy (hx _ _ Tryz.func212) args
 ·exact Zx (hx _ _ Tryz.func213) args
 ·exact Zw (hx _ _ Tryz.func214) args
 ·exact Zv (hx _ _ Tryz.func215) args
 ·exact Zu (hx _ _ Tryz.func216) args
 ·exact Zt (hx _ _ Tryz.func217) args
 ·exact Zs (hx _ _ Tryz.func227) args
 ·exact Zr (hx _ _ Tryz.func228) args
 ·exact Zq (hx _ _ Tryz.func229) args
end Go.Proofs.YtffladgmkiimjaaGreatDoor
namespace Go.Lag
theorem ob{α β:Type}{x:Option α}{f:α→Option β}{b:β}(h:(x >>= f)=some b) : ∃a,x=some a∧f a=some b:=by
 cases x with
 |none=>cases h
 |some a=>exact⟨a,rfl,h⟩
theorem uW{info:bg→Option TypeInfo}{fs:Array Field}{i:TypeInfo}(h:Made.reckonStruct info fs=some i):i.methods = #[]:=by
 unfold Made.reckonStruct at h;obtain⟨s,_,h⟩:=ob h;dsimp only at h;split at h<;>(cases h;rfl)
theorem Dm{info:bg→Option TypeInfo}{d:TypeDesc}{i:TypeInfo}(h:Made.reckon info d=some i):i.methods = #[]:=by
 cases d with
 |pointer e=>
  simp only[Made.reckon] at h;obtain⟨j,_,h⟩:=ob h;split at h
  ·cases h
  ·split at h
   ·cases h
   ·obtain⟨s,_,h⟩:=ob h;cases h;rfl
  ·obtain⟨s,_,h⟩:=ob h;cases h;rfl
 |slice e=>
  simp only[Made.reckon] at h;obtain⟨j,_,h⟩:=ob h;obtain⟨s,_,h⟩:=ob h;cases h;rfl
 |map k e=>
  simp only[Made.reckon] at h;obtain⟨j,_,h⟩:=ob h;obtain⟨s,_,h⟩:=ob h;obtain⟨j,_,h⟩:=ob h;obtain⟨s,_,h⟩:=ob h;cases h;rfl
 |chan dir e=>
  simp only[Made.reckon] at h;obtain⟨j,_,h⟩:=ob h;obtain⟨s,_,h⟩:=ob h;cases dir<;>(cases h;rfl)
 |func ps rs v=>
  simp only[Made.reckon] at h;obtain⟨j,_,h⟩:=ob h;cases h;rfl
 |array n e=>
  simp only[Made.reckon] at h;obtain⟨j,_,h⟩:=ob h;obtain⟨s,_,h⟩:=ob h;cases h;rfl
 |struct fs=>exact uW (by simpa only[Made.reckon] using h)
 |_=>cases h
theorem Hv{T:Tables}{t:bg}{i:TypeInfo}(h:T.info? t=some i):T.types[t]?=some i∨i.methods = #[]:=by
 unfold Tables.info? at h;split at h
 ·exact .inl h
 ·right;generalize Made.depth=n at h;cases n with
  |zero=>cases h
  |succ n=>
   unfold Made.infoAt at h;split at h
   ·contradiction
   ·cases hd:Made.decode (t - T.types.size) with
    |none=>rw[hd] at h;cases h
    |some d=>rw[hd] at h;exact Dm h
section
variable{P:aN}
theorem lJ{α β:Type}{x:Sem α}{f:α→Sem β}{w w':ar}{b:β}(h:(x >>= f).run P w=.ok b w') : ∃a w1,x.run P w=.ok a w1∧(f a).run P w1=.ok b w':=by
 have h1:=Sem.runT_fst P (x >>= f) w #[];rw[h] at h1;have e:(x >>= f).runT P w #[]=(x.bind f).runT P w #[]:=rfl;rw[e,FE] at h1;have h2:=Sem.runT_fst P x w #[];generalize hx:x.runT P w #[]=r at h1 h2;obtain⟨r,es⟩:=r;cases r with
 |ok a w1=>
  refine⟨a,w1,h2.symm,?_⟩;have h3:=Sem.runT_fst P (f a) w1 es;rw[←h3];exact h1
 |halt e w1=>cases h1
def KQ(P:aN)(bl:List Nat):Prop:=∀t i m,P.info? t=some i→m∈i.methods→(m.name = "Error"∨m.name = "String")→∀f b,m.func=some (f,b)→f∈bl
theorem Bp{bl:List Nat}(q:KQ P bl){name:String}(hn:name = "Error"∨name = "String") : ∀(fuel:Nat) (t:bg) (v:ak) (w w':ar) (f:eD) (r:ak),(Go.method fuel t v name).run P w=.ok (f,r) w'→f∈bl
 |0,t,v,w,w',f,r,h=>by cases h
 |fuel+1,t,v,w,w',f,r,h=>by
  unfold Go.method at h;obtain⟨i,w1,h1,h⟩:=lJ h
  have hi:P.info? t=some i:=by
   unfold typeInfo at h1;obtain⟨p,w2,h2,h1⟩:=lJ h1
   have hp:p=P:=by
    have:(Go.program).run P w=.ok P w:=rfl;rw[this] at h2;cases h2;rfl
   subst hp;cases hh:p.info? t with
   |none=>rw[hh] at h1;cases h1
   |some j=>rw[hh] at h1;cases h1;rfl
  cases hm:i.methods.find? (·.name==name) with
  |none=>rw[hm] at h;cases h
  |some m=>
   rw[hm] at h;dsimp only at h;have hmem:m∈i.methods:=Array.mem_of_find?_eq_some hm;have hname:m.name=name:=by simpa using Array.find?_some hm
   obtain⟨⟨xt,x⟩,w2,h2,h⟩:=lJ h;dsimp only at h;cases hf:m.func with
   |none=>
    rw[hf] at h;dsimp only at h;obtain⟨y,w3,h3,h⟩:=lJ h;cases y<;>first|exact Bp q hn fuel _ _ _ _ _ _ h|(cases h)
   |some fb=>
    obtain⟨f0,b0⟩:=fb;rw[hf] at h;dsimp only at h;obtain⟨y,w3,h3,h⟩:=lJ h;cases h;exact q t i m hi hmem (by rw[hname];exact hn) _ _ hf
theorem Du{v:ak}{t:bg}{recv:ak}{name:String}(h:panicText P false v=.call t recv name):name = "Error"∨name = "String":=by
 unfold panicText at h;split at h
 ·split at h
  ·cases h
  ·rename_i t' v' info afR;simp only[bF,if_false] at h;split at h
   ·rename_i m hm;injection h with _ _ h3
    have:=Array.find?_some hm;simp only[aS,beq_iff_eq] at this;exact .inl (h3▸this.1)
   ·rename_i m _ hm;injection h with _ _ h3
    have:=Array.find?_some hm;simp only[aS,beq_iff_eq] at this;exact .inr (h3▸this.1)
   ·split at h
    ·cases h
    ·split at h<;>first|(cases h;done)|(split at h<;>cases h)
 all_goals first|cases h|(split at h<;>cases h)
theorem JH{bl:List Nat}(q:KQ P bl)(hb : ∀f∈bl,∃fn,P.funcs[f]?=some fn∧fn.body=none∧(dh fn).isNone=true)(todo:List (ak × String)):NoEnter P todo:=by
 intro x _ t recv name hp w f args w' h;have hn:=Du hp;rw[Sem.runT_fst] at h;have h':(callMethod (.iface t recv) name (#[Value.iface t recv].extract 1 #[Value.iface t recv].size)).run P w=.ok (.enter f args) w':=h;unfold callMethod at h';dsimp only at h';obtain⟨p,w1,h1,h'⟩:=lJ h';obtain⟨⟨F,r⟩,w2,h2,h'⟩:=lJ h';obtain⟨fn,hf,hbo,hx⟩:=hb F (Bp q hn _ _ _ _ _ _ _ h2);exact callFunc_not_enter hf hbo hx _ _ _ _ _ h'
end
end Go.Lag
namespace Go.Proofs.YtffladgmkiimjaaGreatDoor
open Go.Lag
def MX(m:Method):Bool:=m.name == "Error" || m.name == "String"
theorem Ty:Tryz.prog.types.all (fun i=>i.methods.all fun m=>!MX m||match m.func with | some (f,_)=>bl.contains f | none=>true)=true:=by kernel_rfl
theorem VW:bl.all (fun f=>(Tryz.prog.funcs[f]?.any fun fn=>fn.body.isNone&&(dh fn).isNone))=true:=by kernel_rfl
theorem Tz:Tryz.prog.funcs.any (fun fn=>(fn.body.map readies).any fun l=>!l.isEmpty)=false:=by kernel_rfl
theorem quiet_of{P:aN}(e:P=aq):Quiet P:=by
 refine { body:=fun f fn c hf hc=>?_,ext:=fun f fn args hf hb=>Zh (by rw[e]) f fn args hf hb,name:=fun f fn hf=>?_,ahead:=by rw[e];exact TA,steps:=fun g=>?_,enters:=fun todo=>?_ }
 ·rw[e] at hf;have:=kn.1 Qk fn (fF hf);rw[hc] at this;exact this
 ·rw[e] at hf;have:=kn.1 M7 fn (fF hf);simpa using this
 ·unfold Program.stepOf;rw[Array.findIdx?_eq_none_iff];intro fn hfn;rw[e] at hfn;have:=Array.any_eq_false'.1 Tz fn hfn;cases hb:fn.body with
  |none=>rfl
  |some c=>
   rw[hb] at this;simp only[ej,Option.any_some] at this ⊢;have h2:readies c=[]:=by simpa using this
   rw[h2];rfl
 ·refine JH (bl:=bl) (fun t i m hi hm hn f b hf=>?_) (fun f hf=>?_) todo
  ·rcases Hv hi with h|h
   ·rw[e] at h;have h1:=kn.1 Ty i (fF h);have h2:=kn.1 h1 m hm
    have h3:MX m=true:=by
     rcases hn with h|h<;>simp[MX,h]
    rw[h3,hf] at h2;simpa using h2
   ·rw[h] at hm;simp at hm
  ·have h1:=bL.1 VW f hf;cases hx:Tryz.prog.funcs[f]? with
   |none=>rw[hx] at h1;cases h1
   |some fn=>
    rw[hx] at h1;simp only[Option.any_some,aS,ld] at h1;exact⟨fn,by rw[e];exact hx,h1.1,by simp[h1.2]⟩
theorem quiet:Quiet Tryz.prog:=quiet_of rfl
def fw:Nat→Bool:=fun f=>[155,97,99,162,105,165,118,114,115,138,139,170,171,178].contains f
theorem acr:[155,97,99,162,105,165,118,114,115,138,139,170,171,178].all (fun f=>(Tryz.prog.funcs[f]?.any fun fn=>fn.body.any fun c=>iq aq fw c))=true:=by kernel_rfl
theorem Ke{P:aN}(e:P=aq):tq P fw:=by
 refine⟨fun f hf=>?_⟩;have hm:f∈[155,97,99,162,105,165,118,114,115,138,139,170,171,178]:=by simpa [fw] using hf
 have h1:=bL.1 acr f hm;cases hx:Tryz.prog.funcs[f]? with
 |none=>rw[hx] at h1;cases h1
 |some fn=>
  rw[hx] at h1;simp only[Option.any_some] at h1;cases hb:fn.body with
  |none=>rw[hb] at h1;cases h1
  |some c=>
   rw[hb] at h1;simp only[Option.any_some] at h1;refine⟨fn,c,by rw[e];exact hx,hb,by rw[e];exact h1,?_⟩;have:=kn.1 M7 fn (fF hx);simpa using this
end Go.Proofs.YtffladgmkiimjaaGreatDoor
namespace Go.Lag
open Go.Conc
open Classical in
noncomputable def shut (X:Nat→Prop) (w:ar):World:=
 { w with heap:=w.heap.mapIdx fun b o=>if X b then(match o with|.cells cs e z=>.cells cs e (0,max cs.size z.2)|_=>.coro none) else .coro none }
open Classical in
noncomputable def xr (X:Nat→Prop):Rn:=fun b=>if X b then some b else none
section
variable{F:Nat→Bool}{G:Nat}{X Y:Nat→Prop}{w:ar}
theorem pP{b c:Nat}:xr X b=some c↔X b∧c=b:=by
 unfold xr;split
 ·rename_i h;simp[h,eq_comm]
 ·rename_i h;simp[h]
theorem vh{b:Nat}(h:X b):xr X b=some b:=pP.2 ⟨h,rfl⟩
theorem su(h : ∀b,X b→Y b):Rn.le (xr X) (xr Y):=fun b c hb=>by
 obtain⟨h1,h2⟩:=pP.1 hb;exact pP.2 ⟨h b h1,h2⟩
theorem vI:(shut X w).heap.size=w.heap.size:=by simp[shut]
theorem C6{b:Nat}{cs:Array ak}{e:bg}{z:Nat × Nat}(h:w.heap[b]?=some (.cells cs e z))(hX:X b):(shut X w).heap[b]?=some (.cells cs e (0,max cs.size z.2)):=by
 simp[shut,Array.getElem?_mapIdx,h,hX]
theorem vJ{a:Addr}(hX:X a.block):(shut X w).cell? a=w.cell? a:=by
 unfold World.cell?;cases h:w.heap[a.block]? with
 |none=>
  have:(shut X w).heap[a.block]?=none:=by simp[shut,Array.getElem?_mapIdx,h]
  rw[this]
 |some o=>
  cases o with
  |cells cs e z=>rw[C6 h hX]
  |_=>
   have:(shut X w).heap[a.block]?=some (.coro none):=by simp[shut,Array.getElem?_mapIdx,h,hX]
   rw[this]
theorem M4:dD (shut X w):=by
 intro b o h;simp only[shut,Array.getElem?_mapIdx] at h;cases hb:w.heap[b]? with
 |none=>rw[hb] at h;cases h
 |some x=>
  rw[hb] at h;simp only[ej,lF] at h;subst h;split
  ·cases x<;>first|exact .inl rfl|exact .inr rfl
  ·exact .inr rfl
def Closed(F:Nat→Bool)(X:Nat→Prop)(w:ar):Prop:=∀b,X b→∃cs e z,w.heap[b]?=some (.cells cs e z)∧∀v∈cs,VR F (xr X) v v
theorem Closed.keep{w':ar}(h:Closed F X w)(hk : ∀b,X b→w'.heap[b]?=w.heap[b]?):Closed F X w':=fun b hb=>by
 obtain⟨cs,e,z,h1,h2⟩:=h b hb;exact⟨cs,e,z,by rw[hk b hb];exact h1,h2⟩
theorem Closed.lt(h:Closed F X w){b:Nat}(hb:X b):b<w.heap.size:=by
 obtain⟨cs,e,z,h1,_⟩:=h b hb;exact eY h1
theorem M3(h:Closed F X w)(hG : ∀b,X b→G≤b):WR F G (fun b=>b<w.heap.size) (xr X) (shut X w) w:=by
 refine⟨fun a b c ha hb=>?_,fun b c hb=>?_,fun b hb=>by rw[vI];exact hb,fun b c hb=>?_,fun b o hb=>?_⟩
 ·rw[←(pP.1 ha).2,(pP.1 hb).2]
 ·obtain⟨h1,rfl⟩:=pP.1 hb;exact⟨hG _ h1,hG _ h1⟩
 ·obtain⟨h1,rfl⟩:=pP.1 hb;obtain⟨cs,e,z,h2,h3⟩:=h c h1;refine⟨_,_,C6 h2 h1,h2,.cells ⟨rfl,fun i x y hx hy=>?_⟩ (fun i h4 h5=>⟨Nat.zero_le _,by simp only;omega⟩),fun _=>⟨cs,e,_,rfl,by omega⟩⟩;rw[hx] at hy;cases hy;exact h3 x (fF hx)
 ·simp only[shut,Array.getElem?_mapIdx] at hb;cases hx:w.heap[b]? with
  |none=>rw[hx] at hb;cases hb
  |some x=>
   rw[hx] at hb;simp only[ej,lF] at hb;subst hb;split
   ·cases x<;>rfl
   ·rfl
theorem A3(h:Closed F X w)(c:Nat):X c↔∃b,b<w.heap.size∧xr X b=some c:=by
 constructor
 ·intro hc;exact⟨c,h.lt hc,vh hc⟩
 ·rintro⟨b,_,hb⟩;obtain⟨h1,rfl⟩:=pP.1 hb;exact h1
theorem FV(h:Closed F X w):(xr X).owns (fun b=>b<w.heap.size)=fun _=>False:=by
 funext c
 refine propext ⟨fun⟨b,h1,h2⟩=>?_,fun h=>h.elim⟩;exact h1 (h.lt (pP.1 h2).1)
end
section
variable{P:aN}{main:Bool}{S O:Nat→Prop}{fn:eD}{tmps:Array ak}{kd:CallKind}{k:List Item}{cs:List Frame}{w:ar}{ops:Array Oper}
theorem Dv(O:Nat→Prop)(w:ar):own O w w=O:=by
 funext c
 refine propext ⟨fun h=>h.elim id fun h=>absurd h.1 (by omega),.inl⟩
theorem D8(S O:Nat→Prop)(w:ar){es:Array gy}(h : ∀e∈es,MT (fun c=>S c∨O c) O e):IW S O w w es:=
 ⟨ay _,fun _ _ _=>rfl,rfl,ay _,rfl,rfl,by rw[Dv];exact h⟩
theorem gX.one{c0 c1:Nat}{p:ak}{b:Bool}{g:aF}(hr:g.status=.running)(hd:g.dying=none)
  (h : ∀w1,iD (fun c=>S c∨O c) w w1→∃g' es,fK P false g w1=.go g' w1 es∧(∀e∈es,MT (fun c=>S c∨O c) O e)∧g'.status=.running∧g'.dying=none∧gX P c0 c1 S p b O g' w1):gX P c0 c1 S p b O g w:=by
 refine .step hr hd (fun w1 h1=>?_) fun w1 h1 g2 w2 es he=>?_
 ·obtain⟨g',es,e,hev,h2,h3,_⟩:=h w1 h1;exact⟨g',w1,es,e,D8 S O w1 hev,h2,h3⟩
 ·obtain⟨g',es',e,_,_,_,h4⟩:=h w1 h1;rw[e] at he;injection he with e1 e2 e3
  subst e1;subst e2;rw[Dv];exact h4
theorem gX.ctl{c0 c1:Nat}{p:ak}{b:Bool}{g g':aF}(hr:g.status=.running)(hd:g.dying=none)(h : ∀w,fK P false g w=.go g' w #[])(hr':g'.status=.running)(K5:g'.dying=none)
  (hk:gX P c0 c1 S p b O g' w):gX P c0 c1 S p b O g w:=
 .one hr hd fun w1 h1=>⟨g',#[],h w1,by simp,hr',K5,hk.rely _ _ _ h1⟩
theorem fS.one{c0 c1:Nat}{z0 z1:ak}{Fin:List ak→List ak→(Nat→Prop)→(Nat→Prop)→aF→ar→Prop}{f m:Nat}{acc out:List ak}{g:aF}(hr:g.status=.running)(hd:g.dying=none)
  (h : ∀w1,iD (fun c=>S c∨O c) w w1→∃g' es,fK P true g w1=.go g' w1 es∧(∀e∈es,MT (fun c=>S c∨O c) O e)∧g'.status=.running∧g'.dying=none∧fS P c0 c1 z0 z1 Fin f m acc out S O g' w1):fS P c0 c1 z0 z1 Fin f m acc out S O g w:=by
 refine .step hr hd (fun w1 h1=>?_) fun w1 h1 g2 w2 es he=>?_
 ·obtain⟨g',es,e,hev,h2,h3,_⟩:=h w1 h1;exact⟨g',w1,es,e,D8 S O w1 hev,h2,h3⟩
 ·obtain⟨g',es',e,_,_,_,h4⟩:=h w1 h1;rw[e] at he;injection he with e1 e2 e3
  subst e1;subst e2;rw[Dv];exact h4
theorem fS.ctl{c0 c1:Nat}{z0 z1:ak}{Fin:List ak→List ak→(Nat→Prop)→(Nat→Prop)→aF→ar→Prop}{f m:Nat}{acc out:List ak}{g g':aF}(hr:g.status=.running)(hd:g.dying=none)(h : ∀w,fK P true g w=.go g' w #[])(hr':g'.status=.running)(K5:g'.dying=none)
  (hk:fS P c0 c1 z0 z1 Fin f m acc out S O g' w):fS P c0 c1 z0 z1 Fin f m acc out S O g w:=
 .one hr hd fun w1 h1=>⟨g',#[],h w1,by simp,hr',K5,hk.rely h1⟩
theorem Walk.keep{Stop:(Nat→Prop)→aF→ar→Prop}{O:Nat→Prop}{g:aF}{w:ar}(h:Walk P main S Stop O g w) : ∀w0:ar,(∀c,S c→c<w.heap.size∧¬O c∧w.heap[c]?=w0.heap[c]?)→
  Walk P main S (fun O g w'=>Stop O g w'∧∀c,S c→c<w'.heap.size∧¬O c∧w'.heap[c]?=w0.heap[c]?) O g w:=by
 induction h with
 |@stop O g w h=>
  intro w0 hk;refine .stop fun w1 hr=>⟨h w1 hr,fun c hc=>?_⟩
  obtain⟨h1,h2,h3⟩:=hk c hc;exact⟨bE h1 hr.grow,h2,(hr.keep c (.inl hc)).trans h3⟩
 |@step O g w a b c d ih=>
  intro w0 hk;refine .step a b c fun w1 hr g2 w2 es he=>ih w1 hr g2 w2 es he w0 fun x hx=>?_;obtain⟨h1,h2,h3⟩:=hk x hx;obtain⟨g3,w3,es3,he3,wO,_,_⟩:=c w1 hr;rw[he] at he3;injection he3 with e1 e2 e3
  subst e2;have hlt:x<w1.heap.size:=bE h1 hr.grow;refine⟨bE hlt wO.grow,fun ho=>ho.elim h2 fun hn=>by omega,?_⟩;rw[wO.keep x hlt h2,hr.keep x (.inl hx)];exact h3
theorem jd{w w':ar}{a:Addr}(h:w'.heap[a.block]?=w.heap[a.block]?):w'.cell? a=w.cell? a:=by
 unfold World.cell?;rw[h]
abbrev GK(fn:eD)(tmps:Array ak)(k:List Item)(kd:CallKind)(cs:List Frame):Goroutine:=G (js fn tmps k .run kd) cs
theorem jR(a b:Code)(w:ar):fK P main (GK fn tmps (.code (.seq a b) :: k) kd cs) w=.go (GK fn tmps (.code a :: .code b :: k) kd cs) w #[]:=rfl
theorem qi(id:Nat)(c:Code)(w:ar):fK P main (GK fn tmps (.code (.block id c) :: k) kd cs) w=.go (GK fn tmps (.code c :: .inBlock id :: k) kd cs) w #[]:=rfl
theorem Kv(c:Code)(w:ar):fK P main (GK fn tmps (.code (.loop c) :: k) kd cs) w=.go (GK fn tmps (.code c :: .inLoop c :: k) kd cs) w #[]:=rfl
theorem xI(c:Code)(w:ar):fK P main (GK fn tmps (.inLoop c :: k) kd cs) w=.go (GK fn tmps (.code c :: .inLoop c :: k) kd cs) w #[]:=rfl
theorem oP(id:Nat)(w:ar):fK P main (GK fn tmps (.inBlock id :: k) kd cs) w=.go (GK fn tmps k kd cs) w #[]:=rfl
theorem za(w:ar):fK P main (GK fn tmps (.code .skip :: k) kd cs) w=.go (GK fn tmps k kd cs) w #[]:=rfl
theorem tY(id:Nat)(ops:Array Oper)(w:ar):fK P main (GK fn tmps (.code (.region id ops false) :: k) kd cs) w=.go (GK fn tmps (.inRegion ops (List.range ops.size) :: k) kd cs) w #[]:=rfl
theorem ov(ops:Array Oper)(w:ar):fK P main (GK fn tmps (.inRegion ops [] :: k) kd cs) w=.go (GK fn tmps k kd cs) w #[]:=rfl
theorem sH{c:Operand}{a b:Code}{x:Bool}(h:(js fn tmps (.code (.cond c a b) :: k) .run kd).eval c=.bool x)(w:ar):fK P main (GK fn tmps (.code (.cond c a b) :: k) kd cs) w=.go (GK fn tmps (.code (if x then a else b) :: k) kd cs) w #[]:=by
 have e:fK P main (GK fn tmps (.code (.cond c a b) :: k) kd cs) w=(match (js fn tmps (.code (.cond c a b) :: k) .run kd).eval c with
     |.bool x=>.go (GK fn tmps (.code (if x then a else b) :: k) kd cs) w
     |_=>.ended (.stuck "cond: bool expected" ((js fn tmps (.code (.cond c a b) :: k) .run kd).pos P)) w):=rfl
 rw[e,h]
theorem Ei{id:Nat}{k':List Item}(h:exitTo id k=some k')(w:ar):fK P main (GK fn tmps (.code (.exit id) :: k) kd cs) w=.go (GK fn tmps k' kd cs) w #[]:=by
 show(exitTo id k).elim _ _=_;rw[h];rfl
theorem MZ{i:Nat}{rest:List Nat}{o:Oper}(Cc:kd≠.early)(ho:ops[i]?=some o)(hg:o.guard=none){v:ak}{w w2:ar}{es:Array gy}
  (h:(execOp (js fn tmps (.inRegion ops (i :: rest) :: k) .run kd).eval o).runT P w #[]=(.ok (.value v) w2,es)) :
  fK P main (GK fn tmps (.inRegion ops (i :: rest) :: k) kd cs) w=.go (GK fn (match o.dst with|some d=>tmps.setIfInBounds d v|none=>tmps) (.inRegion ops rest :: k) kd cs) w2 (seen P fn es):=by
 have hw:((ops[i]?).map (dQ · (yielded ops tmps))).getD false=true:=by rw[ho];simp[dQ,hg]
 have Uc:(kd == .early)=false:=beq_eq_false_iff_ne.2 Cc;have e1:fK P main (GK fn tmps (.inRegion ops (i :: rest) :: k) kd cs) w=fG P true (js fn tmps (.inRegion ops (i :: rest) :: k) .run kd) cs none w:=if_pos hw
 have e2:fG P true (js fn tmps (.inRegion ops (i :: rest) :: k) .run kd) cs none w=eE P true (js fn tmps (.inRegion ops (i :: rest) :: k) .run kd) cs none (execOp (js fn tmps (.inRegion ops (i :: rest) :: k) .run kd).eval o) w:=by
  unfold fG;have:(js fn tmps (.inRegion ops (i :: rest) :: k) .run kd).oper?=some o:=ho;rw[this];rfl
 rw[e1,e2];unfold eE;simp only[if_true,h];simp only[js,Uc,bF,if_false,GStep.after,ep,Frame.finish,ho,iK];rfl
def vP(P:aN)(t:bg):Bool:=match P.underlying t with|some (.struct _)|some (.array ..)|none=>false|_=>true
theorem Od{t:bg}(ht:vP P t=true){a:Addr}{v:ak}{w:ar}(hc:w.cell? a=some v)(es:Array gy):(Instr.loadAt t (.pointer (some a))).runT P w es=(.ok v w,es.push ⟨.cell a,false,false⟩):=by
 have h1 : ∃d,P.underlying t=some d∧(∀fs,d≠.struct fs)∧∀n e,d≠.array n e:=by
  unfold vP at ht;cases hd:P.underlying t with
  |none=>rw[hd] at ht;cases ht
  |some d=>rw[hd] at ht;exact⟨d,rfl,(fun fs e=>by subst e;cases ht),(fun n e' e=>by subst e;cases ht)⟩
 obtain⟨d,hd,h2,h3⟩:=h1
 have h4:(isAgg t).runT P w es=(.ok false w,es):=by
  show(((Sem.program fun p=>Sem.pure p).bind fun p=>(match p.underlying t with|some d=>(fA d:Sem TypeDesc)|none=>stuck "no such type")).bind fun d=>(match d with|.struct _|.array _ _=>(fA true:Sem Bool)|_=>fA false)).runT P w es=_;simp only[Sem.bind,Sem.runT,hd];cases d<;>first|rfl|exact absurd rfl (h2 _)|exact absurd rfl (h3 _ _)
 show((loadVar t a)).runT P w es=_;unfold loadVar;show((isAgg t).bind _).runT P w es=_;rw[FE,h4];simp only[bF,if_false];show(Sem.load .plain a .pure).runT P w es=_;simp only[Sem.runT,hc];rfl
theorem zP{i:Nat}{rest:List Nat}{o:Oper}{d:Tmp}{t:bg}{x:Operand}(Cc:kd≠.early)(ho:ops[i]?=some o)(hop:o.op=.load t x)(hd:o.dst=some d)(hg:o.guard=none)(ht:vP P t=true){a:Addr}
  (hx:(js fn tmps (.inRegion ops (i :: rest) :: k) .run kd).eval x=.pointer (some a)) {v:ak} {w:ar} (hc:w.cell? a=some v) :
  fK P main (GK fn tmps (.inRegion ops (i :: rest) :: k) kd cs) w=.go (GK fn (tmps.setIfInBounds d v) (.inRegion ops rest :: k) kd cs) w (seen P fn #[⟨.cell a,false,false⟩]):=by
 obtain⟨dst,op,type,pos,after,guard⟩:=o;dsimp only at hop hd hg;subst hop;subst hd;subst hg;refine MZ Cc ho rfl ?_;show((Instr.loadAt t ((js fn tmps (.inRegion ops (i :: rest) :: k) .run kd).eval x)).bind fun v=>fA (Next.value v)).runT P w #[]=_;rw[hx,FE,Od ht hc];rfl
theorem Ec{a:Addr}(hS:S a.block)(fn:eD) : ∀e∈seen P fn #[⟨.cell a,false,false⟩],MT (fun c=>S c∨O c) O e:=fun e he=>by
 have:=mem_seen he;simp only[fB,mG] at this;subst this;exact .inl ⟨a,rfl,rfl,.inl hS,by simp⟩
theorem FT{i:Nat}{rest:List Nat}{o:Oper}{x y:Operand}(Cc:kd≠.early)(ho:ops[i]?=some o)(hop:o.op=.send x y)(hg:o.guard=none){c:Nat}{v:ak}
  (hx:(js fn tmps (.inRegion ops (i :: rest) :: k) .run kd).eval x=.chan (some c)) (hy:(js fn tmps (.inRegion ops (i :: rest) :: k) .run kd).eval y=v):AtSend P c v (GK fn tmps (.inRegion ops (i :: rest) :: k) kd cs):=by
 refine⟨rfl,rfl,rfl,fun w=>?_⟩;have hw:((ops[i]?).map (dQ · (yielded ops tmps))).getD false=true:=by rw[ho];simp[dQ,hg]
 have Uc:(kd == .early)=false:=beq_eq_false_iff_ne.2 Cc;have e1:fK P false (GK fn tmps (.inRegion ops (i :: rest) :: k) kd cs) w=fG P true (js fn tmps (.inRegion ops (i :: rest) :: k) .run kd) cs none w:=if_pos hw;rw[e1]
 have e2:execOp (js fn tmps (.inRegion ops (i :: rest) :: k) .run kd).eval o=fA (Next.comm #[nJ c v zS] true .send):=by
  unfold execOp;rw[hop];simp only[hx,hy];rfl
 have e3:fG P true (js fn tmps (.inRegion ops (i :: rest) :: k) .run kd) cs none w=eE P true (js fn tmps (.inRegion ops (i :: rest) :: k) .run kd) cs none (execOp (js fn tmps (.inRegion ops (i :: rest) :: k) .run kd).eval o) w:=by
  unfold fG;have:(js fn tmps (.inRegion ops (i :: rest) :: k) .run kd).oper?=some o:=ho;rw[this];rfl
 rw[e3,e2];unfold eE;simp only[if_true,js,Uc,bF,if_false];rfl
theorem A5{i:Nat}{rest:List Nat}{o:Oper}(ho:ops[i]?=some o)(hd:o.dst=none):fL (GK fn tmps (.inRegion ops (i :: rest) :: k) kd cs) af=GK fn tmps (.inRegion ops rest :: k) kd cs:=by
 simp only[fL,GK,G,js,Frame.finish,ho,hd,iK]
def vT(P:aN)(f:eD)(captured:Array ak):Goroutine:=
 { frame:={ (default:Frame) with fn:=P.funcs.size,defers:=[{ target:=.fn (.func f) captured,args:=#[] }],mode:=.panicking [goexitEntry] },callers:=[],status:=.running,dying:=none }
def mO(P:aN):Frame:={ (default:Frame) with fn:=P.funcs.size,defers:=[],mode:=.panicking [goexitEntry] }
theorem Lc{f:eD}{func:Func}{c:Code}(hf:P.funcs[f]?=some func)(hb:func.body=some c)(hn:(func.name == "runtime.NumGoroutine")=false)(captured:Array ak)(w:ar) :
  fK P false (vT P f captured) w=.go (GK f (captured ++ Array.replicate (func.ntmps - captured.size) af) [.code c] .deferred [mO P]) w #[]:=by
 have h1:(invoke (.fn (.func f) captured) #[]).runT P w #[]=(.ok (.enter f captured) w,#[]):=by
  show(fY f (#[] ++ captured)).runT P w #[]=_;unfold fY;show((Sem.program .pure).bind _).runT P w #[]=_;simp only[Sem.bind,Sem.runT];rw[hf];have h4:func.body.isNone=false:=by rw[hb];rfl
  simp only[hn,h4,bF,if_false,Array.empty_append];rfl
 show lX P false (vT P f captured).frame [] none w=_;unfold lX;dsimp only[vT];unfold callDeferred;simp only[h1];simp only[Bool.false_and,bF,if_false,Frame.enter,hf,ej,Option.getD_some,iK,hb];rfl
theorem Oj{f:eD}{func:Func}(hf:P.funcs[f]?=some func)(hr:func.results = #[]):QuitsD P 5 0 (GK f tmps [.inRegion ops []] .deferred [mO P]):=by
 have hd:deafBehind 0 #[]=0:=rfl;refine .inr ⟨rfl,GK f tmps [] .deferred [mO P],#[],by simp,fun w=>rfl,?_⟩;refine .inr ⟨rfl,G (js f tmps [] .returning .deferred) [mO P],#[],by simp,fun w=>rfl,?_⟩;refine .inr ⟨rfl,G (mO P) [],#[],by simp,fun w=>?_,?_⟩
 ·show lX P false (js f tmps [] .returning .deferred) [mO P] none w=_;unfold lX
  have h1:(results func tmps).runT P w #[]=(.ok (.tuple #[]) w,#[]):=by
   unfold results;rw[hr,Array.mapM_eq_mapM_toList];rfl
  simp only[js,hf,h1];rfl
 ·refine .inr ⟨rfl,{ frame:=mO P,callers:=[],status:=.finished,dying:=none },#[],by simp,fun w=>?_,?_⟩
  ·show lX P false (mO P) [] none w=_;unfold lX;have h2:P.funcs[P.funcs.size]?=none:=Array.getElem?_eq_none (ay _);have h3:(default:Frame).todo=[]:=rfl;simp[mO,Frame.catches,h2,h3,goexitEntry]
  ·exact .inl ⟨rfl,rfl⟩
end
end Go.Lag
