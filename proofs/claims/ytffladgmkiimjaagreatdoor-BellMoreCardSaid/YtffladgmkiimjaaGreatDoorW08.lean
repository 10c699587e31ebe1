/- A PHASE: goroutine 0's way; what holds of the machine at every moment. .. -/
import Derived.Test.YtffladgmkiimjaaGreatDoorW07
import Derived.DyingErrors
import Derived.Test.YtffladgmkiimjaaGreatDoorW01
set_option linter.all false
set_option maxHeartbeats 0
set_option maxRecDepth 1000000
open Array renaming getElem?_setIfInBounds_ne -> aB,getElem?_eq_some_iff -> ag,getElem?_setIfInBounds_self_of_lt -> bg,replicate -> bz,append_empty -> eA,mem_of_getElem? -> fB,all_eq_true' -> kG,getElem?_push -> lS,mapM_eq_mapM_toList -> qg
open Bool renaming and_eq_true -> aI,false_eq_true -> bF
open Go renaming Goroutine -> aC,Program -> aK,TypeId -> aV,Value -> ai,World -> ak,undef -> au,Operand -> bI,Frame -> bY,execOp -> cC,Oper -> cY,Addr -> dc,FuncId -> en,stepG -> fE,callFunc -> fT,Event -> gO,Code -> h_,zeroValue -> jl,CallKind -> kC,unwind -> mM,partners -> yi
open Go.Conc renaming mem_ofEvents -> CS,runT_crowd_go -> Ep,served -> fG,parked -> iP,offersAt_of_not_blocked -> nt,scase -> og,crowd -> rZ
open Go.Extern renaming findNext -> dD,find -> fW
open Go.Instr renaming loadAt -> wy
open Go.IntKind renaming i64 -> af
open Go.MemAct renaming ofEvent -> gq
open Go.MemOp renaming ofEvents -> iQ
open Go.Proofs.Tryz renaming prog -> aq,f159 -> lx
open Go.Region renaming wanted -> dg
open Go.Sem renaming runT_bind' -> IC
open Go.Value renaming int -> ah,int -> ax,tuple -> cR
open Go.stepG renaming apply -> eH,oper -> fC
open List renaming all_eq_true -> a7,range -> aP,mem_append -> bL,mem_cons -> bQ,map_cons -> cV,mem_map -> dW,map_append -> d_,mem_toArray -> fp,not_mem_nil -> g_,map_nil -> gw,mem_singleton -> m6
open List.range renaming loop -> cJ
open Nat renaming le_trans -> aG,le_refl -> aJ,lt_of_lt_of_le -> bA,zero_le -> fF,eq_zero_or_pos -> jv
open Ne renaming symm -> CP
open Option renaming map_some -> dK,bind_some -> gZ,isNone_iff_eq_none -> lH
open Option.some renaming inj -> aT,injEq -> ia
open Pure renaming pure -> fo
namespace Go.Lag
open Go.Conc
section
variable(P:aK)(c0 c1:Nat)(z0 z1:ai)
def km:Array CommCase:=#[rcase c0 z0,rcase c1 z1]
def aa2(g:aC):Prop:=g.status=.running/\g.dying=none/\g.offers=none/\∀w,fE P true g w=.comm g (km c0 c1 z0 z1) true .select w #[]
def AtGo(g g' child:aC):Prop:=g.status=.running/\g.dying=none/\∀w,fE P true g w=.spawn g' child w #[]
def iV(g:aC)(k:Nat)(v:ai):Goroutine:=g.finishComm P (km c0 c1 z0 z1) .select k v true
inductive gX(Fin:List ai->List ai->(Nat->Prop)->(Nat->Prop)->aC->ak->Prop):Nat->Nat->List ai->List ai->(Nat->Prop)->(Nat->Prop)->aC->ak->Prop
 |fin {acc out:List ai} {S O:Nat->Prop} {g:aC} {w:ak}:g.status=.running->(∀w1,ja (fun c=>S c\/O c) w w1->Fin acc out S O g w1)->gX Fin 0 0 acc out S O g w
 |step {f m:Nat} {acc out:List ai} {S O:Nat->Prop} {g:aC} {w:ak}:g.status=.running->g.dying=none->
   (∀w1,ja (fun c=>S c\/O c) w w1->∃g2 w2 es,fE P true g w1=.go g2 w2 es/\Lt S O w1 w2 es/\g2.status=.running/\g2.dying=none)->
   (∀w1,ja (fun c=>S c\/O c) w w1->∀g2 w2 es,fE P true g w1=.go g2 w2 es->gX Fin f m acc out S (own O w1 w2) g2 w2)->gX Fin f m acc out S O g w
 |spawn {f m:Nat} {acc out:List ai} {S O Sk S' O':Nat->Prop} {g g' child:aC} {w:ak} {b:Bool} {p:ai}:AtGo P g g' child->g'.status=.running->child.status=.running->(∀c,Sk c->S c\/O c)->iq P c0 c1 Sk p b (fun _=>False) child w->
   (∀c,S' c->S c\/O c)->(∀c,O' c->O c/\¬Sk c/\¬S' c)->gX Fin (f+b.toNat) (m+1) (acc++if b then[p] else[]) out S' O' g' w->gX Fin f m acc out S O g w
 |select {f m:Nat} {acc out:List ai} {S O:Nat->Prop} {g:aC} {w:ak}:aa2 P c0 c1 z0 z1 g->(∀v f',f=f'+1->v∈acc->gX Fin f' (m+1) acc (out++[v]) S O (iV P c0 c1 z0 z1 g 0 v) w)->
   (f<=m->gX Fin f m acc out S O (iV P c0 c1 z0 z1 g 1 (.bool true)) w)->gX Fin f (m+1) acc out S O g w
variable{P c0 c1 z0 z1}
theorem gX.rely{Fin:List ai->List ai->(Nat->Prop)->(Nat->Prop)->aC->ak->Prop}{f m:Nat}{acc out:List ai}{S O:Nat->Prop}{g:aC}{w:ak}(h:gX P c0 c1 z0 z1 Fin f m acc out S O g w) :
  ∀ {w1:ak},ja (fun c=>S c\/O c) w w1->gX P c0 c1 z0 z1 Fin f m acc out S O g w1:=by
 induction h with
 |fin hs h=>intro w1 hr;exact .fin hs fun w2 h2=>h w2 (hr.trans h2)
 |step a b c d _=>intro w1 hr;exact .step a b (fun w2 h2=>c w2 (hr.trans h2)) fun w2 h2=>d w2 (hr.trans h2)
 |spawn h1 h2 h2' h3 h4 h5 h6 _ ih=>
  intro w1 hr;exact .spawn h1 h2 h2' h3 (h4.rely _ _ _ ⟨hr.grow,fun c hc=>hr.keep c (h3 c (by simpa using hc))⟩) h5 h6 (ih ⟨hr.grow,fun c hc=>hr.keep c (hc.elim (h5 c) fun h=>.inr (h6 c h).1)⟩)
 |select h1 _ _ ih1 ih2=>intro w1 hr;exact .select h1 (fun v f' e hv=>ih1 v f' e hv hr) fun hf=>ih2 hf hr
theorem gX.Ki{Fin:List ai->List ai->(Nat->Prop)->(Nat->Prop)->aC->ak->Prop}{f m:Nat}{acc out:List ai}{S:Nat->Prop}{Stop:(Nat->Prop)->aC->ak->Prop}{O:Nat->Prop}{g:aC}{w:ak}(h:Walk P true S Stop O g w)
  (k:∀O g w,Stop O g w->gX P c0 c1 z0 z1 Fin f m acc out S O g w):gX P c0 c1 z0 z1 Fin f m acc out S O g w:=by
 induction h with
 |@stop O g w h=>exact k _ _ _ (h w (.refl _ _))
 |step a b c d ih=>exact .step a b c ih
end
structure Geo(c0 c1:Nat)(S0 O0:Nat->Prop)(L:List X)(n:Nat):Prop where
 Ku:∀c,S0 c\/O0 c->c<n/\c≠c0/\c≠c1
 dj0:∀c,S0 c->¬O0 c
 lt:∀x∈L,∀c,x.S c\/x.O c->c<n/\c≠c0/\c≠c1
 dj:∀x∈L,∀c,x.S c->¬x.O c
 mw:∀x∈L,∀c,O0 c->¬x.S c/\¬x.O c
 wm:∀x∈L,∀c,x.O c->¬S0 c
 ww:∀x∈L,∀y∈L,x.id≠y.id->∀c,x.O c->¬y.S c/\¬y.O c
def SL(L:List X)(g c:Nat):Prop:=∃x∈L,x.id=g/\x.S c
def OL(L:List X)(g c:Nat):Prop:=∃x∈L,x.id=g/\x.O c
def act(L:List X)(g:Nat):Prop:=∃x∈L,x.id=g
def Chan(c:Nat)(w:ak):Prop:=∃s tm,w.heap[c]?=some (.chan 0 #[] false s s tm)
structure Inv(P:aK)(c0 c1:Nat)(S0 O0:Nat->Prop)(gm:aC)(L:List X)(gs:Array aC)(w:ak)(t:Trace)(q:Nat->Nat):Prop where
 zero:gs[0]?=some gm
 slot:∀x∈L,gs[x.id]?=some x.g/\0<x.id
 ws:∀x∈L,WS P c0 c1 x/\x.w=w
 nodup:(L.map X.id).Nodup
 old:∀i g,0<i->gs[i]?=some g->¬act L i->QuitsD P (q i) (Deaf t i) g
 above:∀j,gs.size<=j->Deaf t j=0
 pt:PT (act L) (SL L) (OL L) w.heap.size t
 geo:Geo c0 c1 S0 O0 L w.heap.size
 DR:Chan c0 w
 DN:Chan c1 w
 ne:c0≠c1
 wk0:∀g g' w',Chan c0 w'->Chan c1 w'->woken P g g' w' gm=gm
 st0:gm.status=.running\/gm.status=.blocked
section
variable{P:aK}{c0 c1:Nat}{S0 O0:Nat->Prop}{gm:aC}{L:List X}{gs:Array aC}{w:ak}{t:Trace}{q:Nat->Nat}
theorem PT.congr{A A':Nat->Prop}{S O S' O':Nat->Nat->Prop}{B:Nat}(h:PT A S O B t)(hA:∀g,A' g↔A g)(hS:∀g,A g->∀c,S' g c↔S g c)(hO:∀g,A g->∀c,O' g c↔O g c):PT A' S' O' B t:=by
 refine⟨h.clean,fun i a c ha hc=>(h.known i a c ha hc).imp id ?_,fun g hg i a c ha hc hs=>h.wk g ((hA g).1 hg) i a c ha hc ((hS g ((hA g).1 hg) c).1 hs),fun g hg i a c ha hc ho=>h.ow g ((hA g).1 hg) i a c ha hc ((hO g ((hA g).1 hg) c).1 ho),
  fun i g h1 h2 h3=>(h.over i g h1 h2 h3).imp id (hA g).2,h.hears,fun g hg=>h.wZ g ((hA g).1 hg),h.seen,fun g hg=>h.pos g ((hA g).1 hg)⟩
 rintro⟨g,hg,h1,h2⟩;exact⟨g,(hA g).2 hg,h1,h2.imp (hO g hg c).2 fun h3=>⟨h3.1,(hS g hg c).2 h3.2⟩⟩
theorem iq.running{S:Nat->Prop}{p:ai}{b:Bool}{O:Nat->Prop}{g:aC}{w:ak}(h:iq P c0 c1 S p b O g w):g.status=.running:=by
 cases h with
 |step h _ _ _=>exact h
 |C8 h _=>exact h.1
 |C7 h _=>exact h.1
theorem WS.status{x:X}(h:WS P c0 c1 x):x.g.status=.running\/x.g.status=.blocked:=by
 cases h with
 |run h=>exact .inl h.running
 |vA _ _ _ e=>right;rw[e];rfl
 |vz _ _ _ e=>right;rw[e];rfl
theorem WS.woken{x:X}(h:WS P c0 c1 x)(h0:Chan c0 w)(h1:Chan c1 w)(g g':aC):Conc.woken P g g' w x.g=x.g:=by
 obtain⟨s,tm,h0⟩:=h0;obtain⟨s',tm',h1⟩:=h1;cases h with
 |run h=>exact woken_run h.running
 |vA _ _ _ e=>rw[e];exact woken_send_open _ _ h0
 |vz _ _ _ e=>rw[e];exact woken_send_open _ _ h1
theorem WS.rely{x:X}(h:WS P c0 c1 x){w':ak}(hr:ja (fun c=>x.S c\/x.O c) x.w w'):WS P c0 c1 (x.at w'):=by
 cases h with
 |run h=>exact .run (h.rely _ _ _ hr)
 |vA h1 h2 h3 h4=>exact .vA h1 h2 (h3.rely _ _ _ hr) h4
 |vz h1 h2 h3 h4=>exact .vz h1 h2 h3 h4
theorem Mv{l:List X}(h:(l.map X.id).Nodup):∀x∈l,∀y∈l,x.id=y.id->x=y:=by
 induction l with
 |nil=>intro x hx;cases hx
 |cons a l ih=>
  simp only[cV,List.nodup_cons,dW,not_exists,not_and] at h;intro x hx y hy e;rcases bQ.1 hx with rfl|hx'<;>rcases bQ.1 hy with rfl|hy'
  .rfl
  .exact absurd e.symm (h.1 y hy')
  .exact absurd e (h.1 x hx')
  exact ih h.2 x hx' y hy' e
theorem oH{l1 l2:List X}{x:X}(h:((l1++x::l2).map X.id).Nodup):∀y∈l1++l2,y.id≠x.id:=by
 simp only[d_,cV,List.nodup_append,List.nodup_cons,dW,bQ] at h;intro y hy e;rcases bL.1 hy with hy|hy
 .exact h.2.2 _ ⟨y,hy,rfl⟩ x.id (.inl rfl) e
 exact h.2.1.1 ⟨y,hy,e⟩
theorem Inv.size(h:Inv P c0 c1 S0 O0 gm L gs w t q):0<gs.size:=(ag.1 h.zero).1
theorem Inv.woken(h:Inv P c0 c1 S0 O0 gm L gs w t q){w':ak}(h0:Chan c0 w')(h1:Chan c1 w')(g g':aC):gs.map (Conc.woken P g g' w')=gs:=by
 apply Array.ext_getElem?;intro i;rw[Array.getElem?_map];cases hi:gs[i]? with
 |none=>rfl
 |some y=>
  simp only[dK];rcases jv i with rfl|kY
  .rw[h.zero] at hi;cases hi;rw[h.wk0 g g' w' h0 h1]
  by_cases ha:act L i
  .obtain⟨x,hx,rfl⟩:=ha;rw[(h.slot x hx).1] at hi;cases hi;rw[(h.ws x hx).1.woken h0 h1]
  rw[woken_quitsD (h.old i y kY hi ha)]
theorem Inv.awake(h:Inv P c0 c1 S0 O0 gm L gs w t q):∀x∈gs,awake x:=by
 intro y hy;obtain⟨i,hi⟩:=Array.mem_iff_getElem?.1 hy;rcases jv i with rfl|kY
 .rw[h.zero] at hi;cases hi;exact awake_of (h.st0.imp id .inl)
 by_cases ha:act L i
 .obtain⟨x,hx,rfl⟩:=ha;rw[(h.slot x hx).1] at hi;cases hi;exact awake_of ((h.ws x hx).1.status.imp id .inl)
 exact awake_of ((h.old i y kY hi ha).status.elim .inl fun x=>.inr (.inr x))
theorem ub{K:Nat->Prop}{w w':ak}(h:w'.heap=w.heap):ja K w w':=⟨by rw[h];exact aJ _,fun c _=>by rw[h]⟩
theorem oI{w':ak}{L:List X}{y:X}:y∈L.map (X.at w')↔∃x∈L,y=x.at w':=by
 simp only[dW];exact⟨fun⟨x,h1,h2⟩=>⟨x,h1,h2.symm⟩,fun⟨x,h1,h2⟩=>⟨x,h1,h2.symm⟩⟩
theorem Lm{w':ak}{g:Nat}:act (L.map (X.at w')) g↔act L g:=by
 constructor
 .rintro⟨y,hy,rfl⟩;obtain⟨x,hx,rfl⟩:=oI.1 hy;exact⟨x,hx,rfl⟩
 rintro⟨x,hx,rfl⟩;exact⟨x.at w',oI.2 ⟨x,hx,rfl⟩,rfl⟩
theorem aaV{w':ak}{g c:Nat}:SL (L.map (X.at w')) g c↔SL L g c:=by
 constructor
 .rintro⟨y,hy,rfl,hs⟩;obtain⟨x,hx,rfl⟩:=oI.1 hy;exact⟨x,hx,rfl,hs⟩
 rintro⟨x,hx,rfl,hs⟩;exact⟨x.at w',oI.2 ⟨x,hx,rfl⟩,rfl,hs⟩
theorem aaX{w':ak}{g c:Nat}:OL (L.map (X.at w')) g c↔OL L g c:=by
 constructor
 .rintro⟨y,hy,rfl,hs⟩;obtain⟨x,hx,rfl⟩:=oI.1 hy;exact⟨x,hx,rfl,hs⟩
 rintro⟨x,hx,rfl,hs⟩;exact⟨x.at w',oI.2 ⟨x,hx,rfl⟩,rfl,hs⟩
theorem Geo.at{n:Nat}{w':ak}(h:Geo c0 c1 S0 O0 L n){n':Nat}(hn:n<=n'):Geo c0 c1 S0 O0 (L.map (X.at w')) n':=by
 have lift:∀ {Q:X->Prop},(∀x∈L,Q (x.at w'))->∀y∈L.map (X.at w'),Q y:=fun hq y hy=>by
  obtain⟨x,hx,rfl⟩:=oI.1 hy;exact hq x hx
 refine⟨fun c hc=>?_,h.dj0,lift fun x hx c hc=>?_,lift fun x hx c hc=>h.dj x hx c hc,lift fun x hx c hc=>h.mw x hx c hc,lift fun x hx c hc=>h.wm x hx c hc,lift fun x hx=>lift fun y hy he c hc=>h.ww x hx y hy he c hc⟩
 .have:=h.Ku c hc;exact⟨oN,this.2⟩
 have:=h.lt x hx c hc;exact⟨oN,this.2⟩
theorem VB(L:List X)(w':ak):(L.map (X.at w')).map X.id=L.map X.id:=by
 rw[List.map_map];rfl
theorem Inv.draw(h:Inv P c0 c1 S0 O0 gm L gs w t q){w':ak}(hw:w'.heap=w.heap):Inv P c0 c1 S0 O0 gm (L.map (X.at w')) gs w' t q:=by
 have hlt:w'.heap.size=w.heap.size:=by rw[hw]
 refine⟨h.zero,fun y hy=>?_,fun y hy=>?_,by rw[VB];exact h.nodup,fun i g hi hg ha=>h.old i g hi hg fun a=>ha (Lm.2 a),h.above,?_,?_,?_,?_,h.ne,h.wk0,h.st0⟩
 .obtain⟨x,hx,rfl⟩:=oI.1 hy;exact h.slot x hx
 .obtain⟨x,hx,rfl⟩:=oI.1 hy;refine⟨(h.ws x hx).1.rely ?_,rfl⟩;rw[(h.ws x hx).2];exact ub hw
 .rw[hlt];exact h.pt.congr (fun g=>Lm) (fun g _ c=>aaV) fun g _ c=>aaX
 .exact h.geo.at oN
 .obtain⟨s,tm,e⟩:=h.DR;exact⟨s,tm,by rw[hw];exact e⟩
 obtain⟨s,tm,e⟩:=h.DN;exact⟨s,tm,by rw[hw];exact e⟩
end
open Go.ConcN (upd upd_ne upd_same sumTo sumTo_upd)
section
variable{P:aK}{c0 c1:Nat}{S0 O0:Nat->Prop}{gm:aC}{L l1 l2:List X}{x:X}{gs:Array aC}{w:ak}{t u:Trace}{q:Nat->Nat}
theorem FB{k:Nat}{fn:en}{pos:String}{es:Array gO}{R W:Nat->Prop}{B:Nat}(h:∀e∈es,Un R W e)(hR:∀c,R c->c<B):∀op∈iQ k fn pos es,op.g=k/\Lp R W op/\oQ op/\op.act.low B:=by
 intro op hop;obtain⟨e,he,rfl⟩:=CS hop;refine⟨rfl,?_⟩;obtain⟨loc,wr,sy⟩:=e;rcases h _ he with⟨a,h1,h2,h3,h4⟩|⟨r,h1,h2,h3,h4⟩|h1
 .dsimp only at h1 h2 h4;subst h1;subst h2;refine⟨?_,⟨by simp[gq],by simp[gq]⟩,hR _ h3⟩;intro y hy;simp only[gq,MemAct.touch?,ia] at hy;subst hy;exact⟨rfl,a.block,rfl,h3,h4⟩
 .dsimp only at h1 h2 h4;subst h1;subst h2;have e:gq ⟨.obj r,wr,false⟩=.access ⟨.obj r,wr,false⟩:=by cases wr<;>rfl
  dsimp only;refine⟨?_,?_,?_⟩
  .intro y hy;dsimp only at hy;rw[e] at hy;simp only[MemAct.touch?,ia] at hy;subst hy;exact⟨rfl,r,rfl,h3,h4⟩
  .unfold oQ;dsimp only;rw[e];exact⟨sN,sN⟩
  rw[e];exact hR _ h3
 dsimp only at h1;subst h1;refine⟨?_,⟨by simp[gq],by simp[gq]⟩,trivial⟩;intro y hy;simp[gq,MemAct.touch?] at hy
theorem gV{w':ak}{x2 y:X}:y∈l1.map (X.at w')++x2::l2.map (X.at w')↔y=x2\/∃z∈l1++l2,y=z.at w':=by
 simp only[bL,bQ,dW];constructor
 .rintro(⟨z,hz,rfl⟩|rfl|⟨z,hz,rfl⟩)
  .exact .inr ⟨z,.inl hz,rfl⟩
  .exact .inl rfl
  exact .inr ⟨z,.inr hz,rfl⟩
 rintro(rfl|⟨z,hz|hz,rfl⟩)
 .exact .inr (.inl rfl)
 .exact .inl ⟨z,hz,rfl⟩
 exact .inr (.inr ⟨z,hz,rfl⟩)
theorem qC{w':ak}{y:X}:y∈l1.map (X.at w')++l2.map (X.at w')↔∃z∈l1++l2,y=z.at w':=by
 simp only[bL,dW];constructor
 .rintro(⟨z,hz,rfl⟩|⟨z,hz,rfl⟩)
  .exact⟨z,.inl hz,rfl⟩
  exact⟨z,.inr hz,rfl⟩
 rintro⟨z,hz|hz,rfl⟩
 .exact .inl ⟨z,hz,rfl⟩
 exact .inr ⟨z,hz,rfl⟩
theorem bX{z:X}(h:z∈l1++l2):z∈l1++x::l2:=by
 rcases bL.1 h with h|h
 .exact bL.2 (.inl h)
 exact bL.2 (.inr (List.mem_cons_of_mem _ h))
theorem nT:x∈l1++x::l2:=bL.2 (.inr (List.mem_cons_self ..))
theorem nE{z:X}(h:z∈l1++x::l2):z=x\/z∈l1++l2:=by
 rcases bL.1 h with h|h
 .exact .inr (bL.2 (.inl h))
 rcases bQ.1 h with rfl|h
 .exact .inl rfl
 exact .inr (bL.2 (.inr h))
theorem ER{w':ak}{x2:X}(hid:x2.id=x.id){g:Nat}:act (l1.map (X.at w')++x2::l2.map (X.at w')) g↔act (l1++x::l2) g:=by
 constructor
 .rintro⟨y,hy,rfl⟩;rcases gV.1 hy with rfl|⟨z,hz,rfl⟩
  .exact⟨x,nT,hid.symm⟩
  exact⟨z,bX hz,rfl⟩
 rintro⟨y,hy,rfl⟩;rcases nE hy with rfl|hz
 .exact⟨x2,gV.2 (.inl rfl),hid⟩
 exact⟨y.at w',gV.2 (.inr ⟨y,hz,rfl⟩),rfl⟩
theorem Q9{w':ak}{x2:X}(hid:x2.id=x.id):(l1.map (X.at w')++x2::l2.map (X.at w')).map X.id=(l1++x::l2).map X.id:=by
 simp only[d_,cV,List.map_map,hid];rfl
theorem Inv.Us(h:Inv P c0 c1 S0 O0 gm (l1++x::l2) gs w t q){g2:aC}{w2:ak}{es:Array gO}(yC:Lt x.S x.O w w2 es)(hp:iq P c0 c1 x.S x.p x.b (own x.O w w2) g2 w2)(fn:en)(pos:String) :
  Inv P c0 c1 S0 O0 gm (l1.map (X.at w2)++{ x with O:=own x.O w w2,g:=g2,w:=w2 }::l2.map (X.at w2)) (gs.setIfInBounds x.id g2) w2 (t++iQ x.id fn pos es) q/\ja (fun c=>S0 c\/O0 c) w w2:=by
 have hx:=nT (x:=x) (l1:=l1) (l2:=l2);have hid:({ x with O:=own x.O w w2,g:=g2,w:=w2 }:X).id=x.id:=rfl;have Jj:=h.slot x hx;have hlt:x.id<gs.size:=(ag.1 Jj.1).1;have hne:=oH h.nodup;have hgrow:=yC.grow;have ada:c0<w.heap.size:=by obtain⟨s,tm,e⟩:=h.DR;exact eY e
 have ac_:c1<w.heap.size:=by obtain⟨s,tm,e⟩:=h.DN;exact eY e
 have xO:∀c,x.O c->c<w.heap.size/\c≠c0/\c≠c1:=fun c hc=>h.geo.lt x hx c (.inr hc);have hrel:∀K:Nat->Prop,(∀c,K c->c<w.heap.size/\¬x.O c)->ja K w w2:=fun K hK=>⟨hgrow,fun c hc=>yC.keep c (hK c hc).1 (hK c hc).2⟩
 have U1:∀c,own x.O w w2 c->c<w2.heap.size:=fun c hc=>by
  rcases hc with hc|hc
  .have:=(xO c hc).1;omega
  exact hc.2
 have aa8:∀z∈l1++l2,ja (fun c=>z.S c\/z.O c) w w2:=fun z hz=>hrel _ fun c hc=>by
  refine⟨(h.geo.lt z (bX hz) c hc).1,fun ho=>?_⟩;have:=h.geo.ww x hx z (bX hz) (fun e=>hne z hz e.symm) c ho;exact hc.elim this.1 this.2
 have ch:∀c,c<w.heap.size->(∀c',x.O c'->c'≠c)->Chan c w->Chan c w2:=fun c hcl hno ⟨s,tm,e⟩=>⟨s,tm,by rw[yC.keep c hcl (fun ho=>hno c ho rfl)];exact e⟩
 have hS:∀c,SL (l1++x::l2) x.id c->x.S c:=fun c ⟨y,hy,VC,hs⟩=>by
  have:=Mv h.nodup y hy x hx VC;subst this;exact hs
 have hO:∀c,OL (l1++x::l2) x.id c->x.O c:=fun c ⟨y,hy,VC,hs⟩=>by
  have:=Mv h.nodup y hy x hx VC;subst this;exact hs
 refine⟨⟨?_,?_,?_,?_,?_,?_,?_,?_,?_,?_,h.ne,h.wk0,h.st0⟩,hrel _ fun c hc=>⟨(h.geo.Ku c hc).1,fun ho=>hc.elim (h.geo.wm x hx c ho) fun h0=>(h.geo.mw x hx c h0).2 ho⟩⟩
 .have:x.id≠0:=by have:=Jj.2;omega
  rw[aB this];exact h.zero
 .intro y hy;rcases gV.1 hy with rfl|⟨z,hz,rfl⟩
  .exact⟨bg hlt,Jj.2⟩
  have hs:=h.slot z (bX hz);refine⟨?_,hs.2⟩;show(gs.setIfInBounds x.id g2)[z.id]?=_;rw[aB (fun e=>hne z hz e.symm)];exact hs.1
 .intro y hy;rcases gV.1 hy with rfl|⟨z,hz,rfl⟩
  .exact⟨.run hp,rfl⟩
  have hs:=h.ws z (bX hz);exact⟨hs.1.rely (by rw[hs.2];exact aa8 z hz),rfl⟩
 .rw[Q9 hid];exact h.nodup
 .intro i g hi hg ha;have ha':¬act (l1++x::l2) i:=fun a=>ha ((ER hid).2 a);have hix:x.id≠i:=fun e=>ha' ⟨x,hx,e⟩;rw[aB hix] at hg;rw[Deaf_other t hix _ (fun op hop=>by obtain⟨e,_,rfl⟩:=CS hop;rfl)];exact h.old i g hi hg ha'
 .intro j hj;have hj':gs.size<=j:=by simpa using hj
  rw[Deaf_other t (g':=x.id) oN _ (fun op hop=>by obtain⟨e,_,rfl⟩:=CS hop;rfl)];exact h.above j hj'
 .have Y7:=h.pt.appW (k:=x.id) ⟨x,hx,rfl⟩ (W:=own x.O w w2) hgrow (u:=iQ x.id fn pos es)
   (FB (fun e he=>(yC.evs e he).mono (fun c hc=>hc.imp (fun hs=>⟨x,hx,rfl,hs⟩) id) fun c hc=>hc) fun c hc=>by
    rcases hc with hc|hc
    .have:=(h.geo.lt x hx c (.inl (hS c hc))).1;omega
    exact U1 c hc)
   (fun c hc=>hc.imp (fun ho=>⟨x,hx,rfl,ho⟩) fun hn=>hn.1) (fun c hc=>.inl (hO c hc))
   (fun c hc hs=>by
    rcases hc with hc|hc
    .exact h.geo.dj x hx c (hS c hs) hc
    have:=(h.geo.lt x hx c (.inl (hS c hs))).1;omega)
   (fun g hg ED c hc=>by
    have lt':∀y∈l1++x::l2,y.id=g->¬(y.S c\/y.O c):=fun y hy YZ hyc=>by
     rcases hc with hc|hc
     .have:=h.geo.ww x hx y hy (fun e=>ED (YZ.symm.trans e.symm)) c hc;exact hyc.elim this.1 this.2
     have:=(h.geo.lt y hy c hyc).1;omega
    exact⟨fun⟨y,hy,YZ,hs⟩=>lt' y hy YZ (.inl hs),fun⟨y,hy,YZ,hs⟩=>lt' y hy YZ (.inr hs)⟩)
   (fun g hg ED c hc ⟨y,hy,YZ,ho⟩=>(h.geo.ww y hy x hx (fun e=>ED (YZ.symm.trans e)) c ho).1 (hS c hc))
  refine Y7.congr (fun g=>ER hid) (fun g hg c=>?_) fun g hg c=>?_
  .constructor
   .rintro⟨y,hy,rfl,hs⟩;rcases gV.1 hy with rfl|⟨z,hz,rfl⟩
    .exact⟨x,hx,rfl,hs⟩
    exact⟨z,bX hz,rfl,hs⟩
   rintro⟨y,hy,rfl,hs⟩;rcases nE hy with rfl|hz
   .exact⟨_,gV.2 (.inl rfl),rfl,hs⟩
   exact⟨y.at w2,gV.2 (.inr ⟨y,hz,rfl⟩),rfl,hs⟩
  by_cases e:g=x.id
  .subst e;simp only[if_true];constructor
   .rintro⟨y,hy,VC,hs⟩;rcases gV.1 hy with rfl|⟨z,hz,rfl⟩
    .exact hs
    exact absurd VC (hne z hz)
   intro hs;exact⟨_,gV.2 (.inl rfl),rfl,hs⟩
  simp only[e,if_false];constructor
  .rintro⟨y,hy,rfl,hs⟩;rcases gV.1 hy with rfl|⟨z,hz,rfl⟩
   .exact absurd rfl e
   exact⟨z,bX hz,rfl,hs⟩
  rintro⟨y,hy,rfl,hs⟩;rcases nE hy with rfl|hz
  .exact absurd rfl e
  exact⟨y.at w2,gV.2 (.inr ⟨y,hz,rfl⟩),rfl,hs⟩
 .have lift:∀ {Q:X->Prop},Q { x with O:=own x.O w w2,g:=g2,w:=w2 }->(∀z∈l1++l2,Q (z.at w2))->∀y∈l1.map (X.at w2)++{ x with O:=own x.O w w2,g:=g2,w:=w2 }::l2.map (X.at w2),Q y:=fun h1 h2 y hy=>by
   rcases gV.1 hy with rfl|⟨z,hz,rfl⟩
   .exact h1
   exact h2 z hz
  refine⟨fun c hc=>⟨by have:=(h.geo.Ku c hc).1;omega,(h.geo.Ku c hc).2⟩,h.geo.dj0,lift (fun c hc=>?_) fun z hz c hc=>⟨by have:=(h.geo.lt z (bX hz) c hc).1;omega,(h.geo.lt z (bX hz) c hc).2⟩,
   lift (fun c hs ho=>?_) fun z hz=>h.geo.dj z (bX hz),lift (fun c h0=>⟨(h.geo.mw x hx c h0).1,fun ho=>?_⟩) fun z hz=>h.geo.mw z (bX hz),lift (fun c ho hs=>?_) fun z hz=>h.geo.wm z (bX hz),
   lift (lift (fun e=>absurd rfl e) fun z hz he c ho=>?_) fun z hz=>lift (fun he c ho=>?_) fun z' hz' he c ho=>h.geo.ww z (bX hz) z' (bX hz') he c ho⟩
  .rcases hc with hc|hc|hc
   .have:=h.geo.lt x hx c (.inl hc);exact⟨oN,this.2⟩
   .have:=xO c hc;exact⟨oN,this.2⟩
   exact⟨hc.2,oN,oN⟩
  .rcases ho with ho|ho
   .exact h.geo.dj x hx c hs ho
   have:=(h.geo.lt x hx c (.inl hs)).1;omega
  .rcases ho with ho|ho
   .exact(h.geo.mw x hx c h0).2 ho
   have:=(h.geo.Ku c (.inr h0)).1;omega
  .rcases ho with ho|ho
   .exact h.geo.wm x hx c ho hs
   have:=(h.geo.Ku c (.inl hs)).1;omega
  .rcases ho with ho|ho
   .exact h.geo.ww x hx z (bX hz) he c ho
   have hz':=h.geo.lt z (bX hz) c;exact⟨fun hs=>by have:=(hz' (.inl hs)).1;omega,fun hs=>by have:=(hz' (.inr hs)).1;omega⟩
  have:=h.geo.ww z (bX hz) x hx he c ho;refine⟨this.1,fun hw=>hw.elim this.2 fun hn=>?_⟩;have:=(h.geo.lt z (bX hz) c (.inr ho)).1;omega
 .exact ch c0 ada (fun c' hc'=>(xO c' hc').2.1) h.DR
 exact ch c1 ac_ (fun c' hc'=>(xO c' hc').2.2) h.DN
theorem Inv.replace(h:Inv P c0 c1 S0 O0 gm (l1++x::l2) gs w t q){x2:X}(hid:x2.id=x.id)(Tr:x2.S=x.S)(X4:x2.O=x.O)(Lx:WS P c0 c1 x2){w':ak}(hw2:x2.w=w'){gm':aC}{gs':Array aC}
  (g0:gs'[0]?=some gm') (gx:gs'[x.id]?=some x2.g) (gr:∀i,i≠0->i≠x.id->gs'[i]?=gs[i]?) (gz:gs'.size=gs.size)
  (hsz:w'.heap.size=w.heap.size) (VX:∀c,c≠c0->c≠c1->w'.heap[c]?=w.heap[c]?) (DR:Chan c0 w') (DN:Chan c1 w') {t':Trace} (Y7:PT (act (l1++x::l2)) (SL (l1++x::l2)) (OL (l1++x::l2)) w.heap.size t')
  (PK:∀i,Deaf t' i=Deaf t i) (Y2:∀g g' w',Chan c0 w'->Chan c1 w'->Conc.woken P g g' w' gm'=gm') (hst:gm'.status=.running\/gm'.status=.blocked) :
  Inv P c0 c1 S0 O0 gm' (l1.map (X.at w')++x2::l2.map (X.at w')) gs' w' t' q/\ja (fun c=>S0 c\/O0 c) w w':=by
 have hx:=nT (x:=x) (l1:=l1) (l2:=l2);have hne:=oH h.nodup;have Jj:=h.slot x hx;have hrel:∀K:Nat->Prop,(∀c,K c->c≠c0/\c≠c1)->ja K w w':=fun K hK=>⟨oN,fun c hc=>VX c (hK c hc).1 (hK c hc).2⟩
 refine⟨⟨g0,?_,?_,?_,?_,?_,?_,?_,DR,DN,h.ne,Y2,hst⟩,hrel _ fun c hc=>(h.geo.Ku c hc).2⟩
 .intro y hy;rcases gV.1 hy with rfl|⟨z,hz,rfl⟩
  .exact⟨by rw[hid];exact gx,by rw[hid];exact Jj.2⟩
  have hs:=h.slot z (bX hz);refine⟨?_,hs.2⟩;show gs'[z.id]?=_;rw[gr z.id (by have:=hs.2;omega) (hne z hz)];exact hs.1
 .intro y hy;rcases gV.1 hy with rfl|⟨z,hz,rfl⟩
  .exact⟨Lx,hw2⟩
  have hs:=h.ws z (bX hz);exact⟨hs.1.rely (by rw[hs.2];exact hrel _ fun c hc=>(h.geo.lt z (bX hz) c hc).2),rfl⟩
 .rw[Q9 hid];exact h.nodup
 .intro i g hi hg ha;have ha':¬act (l1++x::l2) i:=fun a=>ha ((ER hid).2 a);have hix:i≠x.id:=fun e=>ha' ⟨x,hx,e.symm⟩;rw[gr i oN hix] at hg;rw[PK];exact h.old i g hi hg ha'
 .intro j hj;rw[PK];exact h.above j oN
 .rw[hsz];refine Y7.congr (fun g=>ER hid) (fun g hg c=>?_) fun g hg c=>?_
  .constructor
   .rintro⟨y,hy,rfl,hs⟩;rcases gV.1 hy with rfl|⟨z,hz,rfl⟩
    .exact⟨x,hx,hid.symm,by rw[<-Tr];exact hs⟩
    exact⟨z,bX hz,rfl,hs⟩
   rintro⟨y,hy,rfl,hs⟩;rcases nE hy with rfl|hz
   .exact⟨_,gV.2 (.inl rfl),hid,by rw[Tr];exact hs⟩
   exact⟨y.at w',gV.2 (.inr ⟨y,hz,rfl⟩),rfl,hs⟩
  constructor
  .rintro⟨y,hy,rfl,hs⟩;rcases gV.1 hy with rfl|⟨z,hz,rfl⟩
   .exact⟨x,hx,hid.symm,by rw[<-X4];exact hs⟩
   exact⟨z,bX hz,rfl,hs⟩
  rintro⟨y,hy,rfl,hs⟩;rcases nE hy with rfl|hz
  .exact⟨_,gV.2 (.inl rfl),hid,by rw[X4];exact hs⟩
  exact⟨y.at w',gV.2 (.inr ⟨y,hz,rfl⟩),rfl,hs⟩
 rw[hsz]
 have lift:∀ {Q:X->Prop},Q x2->(∀z∈l1++l2,Q (z.at w'))->∀y∈l1.map (X.at w')++x2::l2.map (X.at w'),Q y:=fun h1 h2 y hy=>by
  rcases gV.1 hy with rfl|⟨z,hz,rfl⟩
  .exact h1
  exact h2 z hz
 refine⟨h.geo.Ku,h.geo.dj0,lift (by rw[Tr,X4];exact h.geo.lt x hx) fun z hz=>h.geo.lt z (bX hz),lift (by rw[Tr,X4];exact h.geo.dj x hx) fun z hz=>h.geo.dj z (bX hz),
  lift (by rw[Tr,X4];exact h.geo.mw x hx) fun z hz=>h.geo.mw z (bX hz),lift (by rw[X4];exact h.geo.wm x hx) fun z hz=>h.geo.wm z (bX hz),
  lift (lift (fun e=>absurd rfl e) fun z hz he=>?_) fun z hz=>lift (fun he=>?_) fun z' hz' he=>h.geo.ww z (bX hz) z' (bX hz') he⟩
 .rw[X4];rw[hid] at he;exact h.geo.ww x hx z (bX hz) he
 rw[X4,Tr];rw[hid] at he;exact h.geo.ww z (bX hz) x hx he
theorem Inv.cut(h:Inv P c0 c1 S0 O0 gm (l1++x::l2) gs w t q){g2:aC}{n:Nat}(hq:QuitsD P n 0 g2){w':ak}{gm':aC}{gs':Array aC}
  (g0:gs'[0]?=some gm') (gx:gs'[x.id]?=some g2) (gr:∀i,i≠0->i≠x.id->gs'[i]?=gs[i]?) (gz:gs'.size=gs.size)
  (hsz:w'.heap.size=w.heap.size) (VX:∀c,c≠c0->c≠c1->w'.heap[c]?=w.heap[c]?) (DR:Chan c0 w') (DN:Chan c1 w') {t':Trace} (Y7:PT (fun g=>act (l1++x::l2) g/\g≠x.id) (SL (l1++x::l2)) (OL (l1++x::l2)) w.heap.size t')
  (PK:∀i,Deaf t' i=Deaf t i) (Y2:∀g g' w',Chan c0 w'->Chan c1 w'->Conc.woken P g g' w' gm'=gm') (hst:gm'.status=.running\/gm'.status=.blocked) :
  Inv P c0 c1 S0 O0 gm' (l1.map (X.at w')++l2.map (X.at w')) gs' w' t' (upd q x.id n)/\ja (fun c=>S0 c\/O0 c) w w':=by
 have hx:=nT (x:=x) (l1:=l1) (l2:=l2);have hne:=oH h.nodup;have Jj:=h.slot x hx;have hrel:∀K:Nat->Prop,(∀c,K c->c≠c0/\c≠c1)->ja K w w':=fun K hK=>⟨oN,fun c hc=>VX c (hK c hc).1 (hK c hc).2⟩
 have Tp:∀g,act (l1.map (X.at w')++l2.map (X.at w')) g↔act (l1++x::l2) g/\g≠x.id:=by
  intro g;constructor
  .rintro⟨y,hy,rfl⟩;obtain⟨z,hz,rfl⟩:=qC.1 hy;exact⟨⟨z,bX hz,rfl⟩,hne z hz⟩
  rintro⟨⟨y,hy,rfl⟩,hn⟩;rcases nE hy with rfl|hz
  .exact absurd rfl hn
  exact⟨y.at w',qC.2 ⟨y,hz,rfl⟩,rfl⟩
 refine⟨⟨g0,?_,?_,?_,?_,?_,?_,?_,DR,DN,h.ne,Y2,hst⟩,hrel _ fun c hc=>(h.geo.Ku c hc).2⟩
 .intro y hy;obtain⟨z,hz,rfl⟩:=qC.1 hy;have hs:=h.slot z (bX hz);refine⟨?_,hs.2⟩;show gs'[z.id]?=_;rw[gr z.id (by have:=hs.2;omega) (hne z hz)];exact hs.1
 .intro y hy;obtain⟨z,hz,rfl⟩:=qC.1 hy;have hs:=h.ws z (bX hz);exact⟨hs.1.rely (by rw[hs.2];exact hrel _ fun c hc=>(h.geo.lt z (bX hz) c hc).2),rfl⟩
 .have e:(l1.map (X.at w')++l2.map (X.at w')).map X.id=l1.map X.id++l2.map X.id:=by simp only[d_,List.map_map];rfl
  rw[e];have:=h.nodup;simp only[d_,cV] at this;exact this.sublist (List.Sublist.append_left (List.sublist_cons_self _ _) _)
 .intro i g hi hg ha
  by_cases hix:i=x.id
  .subst hix;rw[gx] at hg;cases hg;rw[upd_same,PK,h.pt.wZ x.id ⟨x,hx,rfl⟩];exact hq
  have ha':¬act (l1++x::l2) i:=fun a=>ha ((Tp i).2 ⟨a,hix⟩);rw[gr i oN hix] at hg;rw[PK,upd_ne q n hix];exact h.old i g hi hg ha'
 .intro j hj;rw[PK];exact h.above j oN
 .rw[hsz];refine Y7.congr Tp (fun g hg c=>?_) fun g hg c=>?_
  .constructor
   .rintro⟨y,hy,rfl,hs⟩;obtain⟨z,hz,rfl⟩:=qC.1 hy;exact⟨z,bX hz,rfl,hs⟩
   rintro⟨y,hy,rfl,hs⟩;rcases nE hy with rfl|hz
   .exact absurd rfl hg.2
   exact⟨y.at w',qC.2 ⟨y,hz,rfl⟩,rfl,hs⟩
  constructor
  .rintro⟨y,hy,rfl,hs⟩;obtain⟨z,hz,rfl⟩:=qC.1 hy;exact⟨z,bX hz,rfl,hs⟩
  rintro⟨y,hy,rfl,hs⟩;rcases nE hy with rfl|hz
  .exact absurd rfl hg.2
  exact⟨y.at w',qC.2 ⟨y,hz,rfl⟩,rfl,hs⟩
 rw[hsz]
 have lift:∀ {Q:X->Prop},(∀z∈l1++l2,Q (z.at w'))->∀y∈l1.map (X.at w')++l2.map (X.at w'),Q y:=fun h2 y hy=>by
  obtain⟨z,hz,rfl⟩:=qC.1 hy;exact h2 z hz
 exact⟨h.geo.Ku,h.geo.dj0,lift fun z hz=>h.geo.lt z (bX hz),lift fun z hz=>h.geo.dj z (bX hz),lift fun z hz=>h.geo.mw z (bX hz),lift fun z hz=>h.geo.wm z (bX hz),
  lift fun z hz=>lift fun z' hz' he=>h.geo.ww z (bX hz) z' (bX hz') he⟩
theorem PT.T4{A:Nat->Prop}{S O:Nat->Nat->Prop}{B k:Nat}(h:PT A S O B t)(hk:¬A k)(hk0:k≠0)(hu:∀op∈u,op.g=k/\op.act.touch?=none/\op.act.low B):PT A S O B (t++u):=by
 have hn:=fun op hop=>(hu op hop).2.1;refine⟨Dq h.clean hn,fun i a c ha hc=>?_,fun g hg i a c ha hc hs hw=>?_,fun g hg i a c ha hc ho=>?_,fun i g h1 h2 h3=>?_,?_,fun g hg=>?_,seen_app h.seen fun op hop=>(hu op hop).2.2,h.pos⟩
 .obtain⟨hi,ha'⟩:=fJ hn ha;rcases h.known i a c ha' hc with hk|⟨g,hg,PE,MZ⟩
  .exact .inl (hk.app u)
  exact .inr ⟨g,hg,g?_app PE,MZ⟩
 .obtain⟨hi,ha'⟩:=fJ hn ha;exact(h.wk g hg i a c ha' hc hs hw).app u
 .obtain⟨hi,ha'⟩:=fJ hn ha;exact g?_app (h.ow g hg i a c ha' hc ho)
 .obtain⟨x,c,hx,_⟩:=A3 h3;obtain⟨hi,_⟩:=fJ hn hx;have PE:t.g? i=some g:=by rw[<-g?_old (u:=u) hi];exact h1
  rcases h.over i g PE h2 (sK hi h3) with⟨j,hj,hb⟩|PG
  .exact .inl ⟨j,g?_app hj,hb_app u hb⟩
  exact .inr PG
 .rw[Deaf_other t hk0 u fun op hop=>(hu op hop).1];exact h.hears
 rw[Deaf_other t (g:=g) (g':=k) (fun e=>hk (by subst e;exact hg)) u fun op hop=>(hu op hop).1];exact h.wZ g hg
theorem Inv.slip(h:Inv P c0 c1 S0 O0 gm L gs w t q){i:Nat}{y:aC}(hi:gs[i]?=some y)(kY:0<i)(hrun:y.status=.running)(ha:¬act L i)(sl:Option (Nat × Nat)) :
  ∃gs' aM q',runT P (rZ gs w sl) i=(.next (rZ gs' w sl),aM)/\Inv P c0 c1 S0 O0 gm L gs' w (t++aM) q'/\gs'.size=gs.size/\sumTo gs.size q'<sumTo gs.size q:=by
 have hq:=h.old i y kY hi ha;have hi0:(i==0)=false:=sP;have hlt:i<gs.size:=(ag.1 hi).1;cases hqi:q i with
 |zero=>rw[hqi] at hq;rw[hq.1] at hrun;cases hrun
 |succ k=>
  rw[hqi] at hq;rcases hq with⟨hf,_⟩|⟨_,g',es,hm,abK,hq'⟩
  .rw[hf] at hrun;cases hrun
  have kh:=Ep (P:=P) (sl:=sl) (i:=i) hi (by rw[hi0];exact abK w);rw[h.woken h.DR h.DN] at kh
  have ae8:sumTo gs.size (upd q i k)+(k+1)=sumTo gs.size q+k:=by
   have:=sumTo_upd q k id hlt;simpa [hqi] using this
  have H4:∀op∈iQ i y.frame.fn y.frame.place es,op.g=i/\op.act.touch?=none/\op.act.low w.heap.size:=fun op hop=>by
   obtain⟨e,he,rfl⟩:=CS hop;exact⟨rfl,touch_mute (hm e he),low_mute (hm e he) _⟩
  refine⟨_,_,upd q i k,kh,⟨?_,fun x hx=>?_,h.ws,h.nodup,fun j z hj hz hna=>?_,fun j hj=>?_,h.pt.T4 ha oN H4,h.geo,h.DR,h.DN,h.ne,h.wk0,h.st0⟩,sN,oN⟩
  .rw[aB oN];exact h.zero
  .have hne:i≠x.id:=fun e=>ha ⟨x,hx,e.symm⟩;rw[aB hne];exact h.slot x hx
  .by_cases Ze:i=j
   .subst Ze;rw[bg hlt] at hz;obtain rfl:=aT hz;rw[upd_same,Deaf_own];exact hq'
   rw[aB Ze] at hz;rw[upd_ne q k (CP Ze),Deaf_other t Ze _ (fun op hop=>(H4 op hop).1)];exact h.old j z hj hz hna
  have hj':gs.size<=j:=by simpa using hj
  rw[Deaf_other t (g':=i) oN _ (fun op hop=>(H4 op hop).1)];exact h.above j hj'
theorem Inv.abx(h:Inv P c0 c1 S0 O0 gm L gs w t q){g2:aC}{w2:ak}{es:Array gO}(yC:Lt S0 O0 w w2 es)(hrun:g2.status=.running)(fn:en)(pos:String) :
  Inv P c0 c1 S0 (own O0 w w2) g2 (L.map (X.at w2)) (gs.setIfInBounds 0 g2) w2 (t++iQ 0 fn pos es) q:=by
 have hgrow:=yC.grow;have PB:0<gs.size:=h.size;have ada:c0<w.heap.size:=by obtain⟨s,tm,e⟩:=h.DR;exact eY e
 have ac_:c1<w.heap.size:=by obtain⟨s,tm,e⟩:=h.DN;exact eY e
 have U1:∀c,own O0 w w2 c->c<w2.heap.size:=fun c hc=>by
  rcases hc with hc|hc
  .have:=(h.geo.Ku c (.inr hc)).1;omega
  exact hc.2
 have aa8:∀z∈L,ja (fun c=>z.S c\/z.O c) w w2:=fun z hz=>⟨hgrow,fun c hc=>yC.keep c (h.geo.lt z hz c hc).1 fun ho=>by
  have:=h.geo.mw z hz c ho;exact hc.elim this.1 this.2⟩
 have ch:∀c,c<w.heap.size->(∀c',O0 c'->c'≠c)->Chan c w->Chan c w2:=fun c hcl hno ⟨s,tm,e⟩=>⟨s,tm,by rw[yC.keep c hcl (fun ho=>hno c ho rfl)];exact e⟩
 have H4:=FB (k:=0) (fn:=fn) (pos:=pos) yC.evs (B:=w2.heap.size) fun c hc=>by
  rcases hc with hc|hc
  .have:=(h.geo.Ku c (.inl hc)).1;omega
  exact U1 c hc
 have Y7:=h.pt.app0 hgrow H4
  (fun g ⟨y0,MT,aiy⟩ c hc ⟨y,hy,YZ,ho⟩=>by
   rcases hc with hc|hc|hc
   .exact h.geo.wm y hy c ho hc
   .exact(h.geo.mw y hy c hc).2 ho
   have:=(h.geo.lt y hy c (.inr ho)).1;omega)
  (fun g ⟨y0,MT,aiy⟩ c hc ⟨y,hy,YZ,hs⟩=>by
   rcases hc with hc|hc
   .exact(h.geo.mw y hy c hc).1 hs
   have:=(h.geo.lt y hy c (.inl hs)).1;omega)
 have PK:∀i,Deaf (t++iQ 0 fn pos es) i=Deaf t i:=fun i=>iN _ _ _ fun op hop=>(H4 op hop).2.2.1;refine⟨?_,fun y hy=>?_,fun y hy=>?_,by rw[VB];exact h.nodup,fun i g hi hg ha=>?_,fun j hj=>?_,?_,?_,ch c0 ada (fun c' hc'=>(h.geo.Ku c' (.inr hc')).2.1) h.DR,ch c1 ac_ (fun c' hc'=>(h.geo.Ku c' (.inr hc')).2.2) h.DN,h.ne,fun g g' w' _ _=>woken_run hrun,.inl hrun⟩
 .rw[bg PB]
 .obtain⟨x,hx,rfl⟩:=oI.1 hy;have hs:=h.slot x hx;refine⟨?_,hs.2⟩;show(gs.setIfInBounds 0 g2)[x.id]?=_;rw[aB (by have:=hs.2;omega)];exact hs.1
 .obtain⟨x,hx,rfl⟩:=oI.1 hy;refine⟨(h.ws x hx).1.rely ?_,rfl⟩;rw[(h.ws x hx).2];exact aa8 x hx
 .rw[aB oN] at hg;rw[PK];exact h.old i g hi hg fun a=>ha (Lm.2 a)
 .rw[PK];exact h.above j (by simpa using hj)
 .exact Y7.congr (fun g=>Lm) (fun g _ c=>aaV) fun g _ c=>aaX
 have g1:=h.geo.at (w':=w2) hgrow;refine⟨fun c hc=>?_,fun c hs ho=>?_,g1.lt,g1.dj,fun x hx c ho=>?_,g1.wm,g1.ww⟩
 .rcases hc with hc|hc|hc
  .exact g1.Ku c (.inl hc)
  .exact g1.Ku c (.inr hc)
  exact⟨hc.2,oN,oN⟩
 .rcases ho with ho|ho
  .exact h.geo.dj0 c hs ho
  have:=(h.geo.Ku c (.inl hs)).1;omega
 rcases ho with ho|ho
 .exact g1.mw x hx c ho
 obtain⟨z,hz,rfl⟩:=oI.1 hx;exact⟨fun hs=>by have:=(h.geo.lt z hz c (.inl hs)).1;omega,fun hs=>by have:=(h.geo.lt z hz c (.inr hs)).1;omega⟩
theorem Inv.spawn(h:Inv P c0 c1 S0 O0 gm L gs w t q){g' child:aC}(hrun:g'.status=.running){Sk S' O':Nat->Prop}{b:Bool}{p:ai}(hSk:∀c,Sk c->S0 c\/O0 c)(Oq:∀c,S' c->S0 c\/O0 c)(hO':∀c,O' c->O0 c/\¬Sk c/\¬S' c)(hp:iq P c0 c1 Sk p b (fun _=>False) child w){y z:MemOp}
  (hy:y.g=0/\y.act=.go gs.size) (hz:z.g=gs.size/\z.act=.start) :
  Inv P c0 c1 S' O' g' (L++[⟨gs.size,Sk,p,b,fun _=>False,child,w⟩]) ((gs.setIfInBounds 0 g').push child) w (t++#[y,z]) q:=by
 have PB:0<gs.size:=h.size;have M8:∀x∈L,x.id<gs.size:=fun x hx=>(ag.1 (h.slot x hx).1).1;have hna:¬act L gs.size:=fun⟨x,hx,e⟩=>by have:=M8 x hx;omega
 have hw:∀op∈#[y,z],oQ op:=fun op hop=>by
  simp only[fp,bQ,g_,or_false] at hop;rcases hop with rfl|rfl
  .exact⟨by rw[hy.2];simp,by rw[hy.2];simp⟩
  exact⟨by rw[hz.2];simp,by rw[hz.2];simp⟩
 have PK:∀i,Deaf (t++#[y,z]) i=Deaf t i:=fun i=>iN _ _ _ hw;have hmem:∀ {x:X},x∈L++[⟨gs.size,Sk,p,b,fun _=>False,child,w⟩]↔x∈L\/x=⟨gs.size,Sk,p,b,fun _=>False,child,w⟩:=by intro x;simp
 have Y7:=h.pt.spawn (aJ _) hna oN (h.above _ (aJ _)) hy hz (Sk:=Sk) fun g ⟨x0,hx0,hg0⟩ c hc ⟨x,hx,KD,ho⟩=>by
  rcases hSk c hc with hs|hs
  .exact h.geo.wm x hx c ho hs
  exact(h.geo.mw x hx c hs).2 ho
 have af2:∀c,Sk c->c<w.heap.size/\c≠c0/\c≠c1:=fun c hc=>h.geo.Ku c (hSk c hc);refine⟨?_,fun x hx=>?_,fun x hx=>?_,?_,fun i g hi hg ha=>?_,fun j hj=>?_,?_,?_,h.DR,h.DN,h.ne,fun g g' w' _ _=>woken_run hrun,.inl hrun⟩
 .rw[Array.getElem?_push_lt (by simpa using PB)];simp
 .rcases hmem.1 hx with hx|rfl
  .have hs:=h.slot x hx;have:=M8 x hx;refine⟨?_,hs.2⟩;rw[lS];rw[if_neg sP,aB (by have:=hs.2;omega)];exact hs.1
  refine⟨?_,PB⟩;rw[lS];simp
 .rcases hmem.1 hx with hx|rfl
  .exact h.ws x hx
  exact⟨.run hp,rfl⟩
 .simp only[d_,cV,gw];rw[List.nodup_append];refine⟨h.nodup,sN,fun a ha b hb e=>?_⟩;obtain⟨x,hx,rfl⟩:=dW.1 ha;simp only[m6] at hb;have:=M8 x hx;omega
 .have hns:i≠gs.size:=fun e=>ha ⟨_,hmem.2 (.inr rfl),e.symm⟩;rw[lS,if_neg sP,aB oN] at hg;rw[PK];exact h.old i g hi hg fun⟨x,hx,e⟩=>ha ⟨x,hmem.2 (.inl hx),e⟩
 .rw[PK];exact h.above j (by simp at hj;omega)
 .refine Y7.congr (fun g=>?_) (fun g hg c=>?_) fun g hg c=>?_
  .constructor
   .rintro⟨x,hx,rfl⟩;rcases hmem.1 hx with hx|rfl
    .exact .inl ⟨x,hx,rfl⟩
    exact .inr rfl
   rintro(⟨x,hx,rfl⟩|rfl)
   .exact⟨x,hmem.2 (.inl hx),rfl⟩
   exact⟨_,hmem.2 (.inr rfl),rfl⟩
  .by_cases e:g=gs.size
   .subst e;simp only[if_true];constructor
    .rintro⟨x,hx,hxe,hs⟩;rcases hmem.1 hx with hx|rfl
     .have:=M8 x hx;omega
     exact hs
    intro hs;exact⟨_,hmem.2 (.inr rfl),rfl,hs⟩
   simp only[e,if_false];constructor
   .rintro⟨x,hx,rfl,hs⟩;rcases hmem.1 hx with hx|rfl
    .exact⟨x,hx,rfl,hs⟩
    exact absurd rfl e
   rintro⟨x,hx,rfl,hs⟩;exact⟨x,hmem.2 (.inl hx),rfl,hs⟩
  by_cases e:g=gs.size
  .subst e;simp only[if_true];constructor
   .rintro⟨x,hx,hxe,hs⟩;rcases hmem.1 hx with hx|rfl
    .have:=M8 x hx;omega
    exact hs
   intro hs;exact hs.elim
  simp only[e,if_false];constructor
  .rintro⟨x,hx,rfl,hs⟩;rcases hmem.1 hx with hx|rfl
   .exact⟨x,hx,rfl,hs⟩
   exact absurd rfl e
  rintro⟨x,hx,rfl,hs⟩;exact⟨x,hmem.2 (.inl hx),rfl,hs⟩
 have lift:∀ {Q:X->Prop},(∀x∈L,Q x)->Q ⟨gs.size,Sk,p,b,fun _=>False,child,w⟩->∀x∈L++[⟨gs.size,Sk,p,b,fun _=>False,child,w⟩],Q x:=fun h1 h2 x hx=>by
  rcases hmem.1 hx with hx|rfl
  .exact h1 x hx
  exact h2
 refine⟨fun c hc=>h.geo.Ku c (hc.elim (Oq c) fun h=>.inr (hO' c h).1),fun c hs ho=>(hO' c ho).2.2 hs,lift h.geo.lt fun c hc=>af2 c (by simpa using hc),lift h.geo.dj fun c _ ho=>ho,lift (fun x hx c ho=>h.geo.mw x hx c (hO' c ho).1) fun c ho=>⟨(hO' c ho).2.1,fun hf=>hf⟩,
  lift (fun x hx c ho hs=>?_) fun c ho=>ho.elim,lift (fun x hx=>lift (fun x' hx' he c ho=>h.geo.ww x hx x' hx' he c ho) fun he c ho=>⟨fun hs=>?_,fun hf=>hf⟩) (lift (fun x hx he c ho=>ho.elim) fun he c ho=>ho.elim)⟩
 .rcases Oq c hs with hs|hs
  .exact h.geo.wm x hx c ho hs
  exact(h.geo.mw x hx c hs).2 ho
 rcases hSk c hs with hs|hs
 .exact h.geo.wm x hx c ho hs
 exact(h.geo.mw x hx c hs).2 ho
end
section
variable{α:Type}{D E:α->α->Prop}
theorem qd.EA{f:α->α}:∀l:List α,(∀x∈l,E (f x) x)->qd E (l.map f) l
 |[],_=>.nil
 |x::l,h=>.cons (h x sN) (qd.EA l fun y hy=>h y (by simp[hy]))
theorem LT.Vh{f:α->α}{x x':α}(hd:D x' x){l2:List α}(h2:∀z∈l2,E (f z) z):∀ {l1:List α},(∀z∈l1,E (f z) z)->LT D E (l1.map f++x'::l2.map f) (l1++x::l2)
 |[],_=>.head hd (.EA l2 h2)
 |y::l,h=>.tail (h y sN) (LT.Vh hd h2 fun z hz=>h z (by simp[hz]))
end
def BN(w:ak):(Nat->Question->Nat) × Os × Array (Nat × ByteArray):=(w.tape,w.os,w.output)
def Lt.BN{S O:Nat->Prop}{w w':ak}{es:Array gO}(h:Lt S O w w' es):Lag.BN w'=Lag.BN w:=by
 simp only[Lag.BN,h.tape,h.os,h.out]
def Goal(P:aK)(Fin:List ai->List ai->(Nat->Prop)->(Nat->Prop)->aC->ak->Prop)(gs:Array aC)(w:ak)(sl:Option (Nat × Nat))(t:Trace):Prop:=
 ∃N gs' g' w' sl' t' q' acc out S O,runNT P N (rZ gs w sl) t=(.next (rZ gs' w' sl'),t')/\Beside P gs' g' w' t' q'/\Fin acc out S O g' w'/\out.Perm acc/\BN w'=BN w/\w.heap.size<=w'.heap.size
def pend(L:List X):List Value:=(L.filter (·.b)).map (·.p)
structure CJ(L:List X)(f m:Nat)(acc out:List ai):Prop where
 m:L.length=m
 f:(pend L).length=f
 perm:(out++pend L).Perm acc
section
variable{P:aK}{c0 c1:Nat}{z0 z1:ai}{Fin:List ai->List ai->(Nat->Prop)->(Nat->Prop)->aC->ak->Prop}{S0 O0:Nat->Prop}{gm:aC}{L l1 l2:List X}{x x2:X}{gs gs':Array aC}{w w':ak}{t:Trace}{q:Nat->Nat}
 {sl sl':Option (Nat × Nat)} {f m:Nat} {acc out:List ai} {aM:Array MemOp}
theorem Goal.step(h:stepT P (rZ gs w sl)=(.next (rZ gs' w' sl'),aM))(ht:BN w'=BN w)(hs:w.heap.size<=w'.heap.size)(hg:Goal P Fin gs' w' sl' (t++aM)):Goal P Fin gs w sl t:=by
 obtain⟨N,gs2,g2,w2,sl2,t2,q2,acc,out,S,O,h1,h2,h3,h4,h5,h6⟩:=hg;exact⟨N+1,gs2,g2,w2,sl2,t2,q2,acc,out,S,O,by simp only[runNT,h];exact h1,h2,h3,h4,h5.trans ht,aG hs h6⟩
theorem rr(a b:List X):pend (a++b)=pend a++pend b:=by simp[pend]
theorem sk(a:List X):pend (a.map (X.at w))=pend a:=by
 induction a with
 |nil=>rfl
 |cons y a ih=>
  unfold pend at ih ⊢;simp only[cV,List.filter_cons];have e:(X.at w y).b=y.b:=rfl;rw[e];cases y.b
  .simpa using ih
  simp only[if_true,cV,ih];rfl
theorem qO(a:List X):pend (x::a)=(if x.b then[x.p] else[])++pend a:=by
 unfold pend;cases h:x.b<;>simp[List.filter_cons,h]
theorem YC:∀L:List X,(pend L).length<=L.length:=by
 intro L;unfold pend;rw[List.length_map];exact List.length_filter_le _ _
theorem CJ.mem(h:CJ (l1++x::l2) f m acc out)(hb:x.b=true):x.p∈acc:=by
 refine h.perm.mem_iff.1 ?_;simp[pend,hb]
theorem CJ.le(h:CJ L f m acc out):f<=m:=by rw[<-h.m,<-h.f];exact YC L
theorem CJ.at(h:CJ L f m acc out)(w:ak):CJ (L.map (X.at w)) f m acc out:=⟨by simpa using h.m,by rw[sk];exact h.f,by rw[sk];exact h.perm⟩
theorem CJ.mid(h:CJ (l1++x::l2) f m acc out)(hb:x2.b=x.b)(hp:x2.p=x.p)(w:ak):CJ (l1.map (X.at w)++x2::l2.map (X.at w)) f m acc out:=by
 have e:pend (l1.map (X.at w)++x2::l2.map (X.at w))=pend (l1++x::l2):=by
  rw[rr,rr,qO,qO,sk,sk,hb,hp]
 exact⟨by have:=h.m;simp at this ⊢;exact this,by rw[e];exact h.f,by rw[e];exact h.perm⟩
theorem CJ.found(h:CJ (l1++x::l2) f m acc out)(hb:x.b=true)(hb2:x2.b=false)(w:ak):∃f',f=f'+1/\CJ (l1.map (X.at w)++x2::l2.map (X.at w)) f' m acc (out++[x.p]):=by
 have e:pend (l1.map (X.at w)++x2::l2.map (X.at w))=pend l1++pend l2:=by
  rw[rr,qO,sk,sk,hb2];simp
 have e2:pend (l1++x::l2)=pend l1++x.p::pend l2:=by rw[rr,qO,hb];simp
 have hf:=h.f;rw[e2] at hf;simp only[List.length_append,List.length_cons] at hf;refine⟨(pend l1).length+(pend l2).length,oN,by have:=h.m;simp at this ⊢;exact this,by rw[e];simp,?_⟩;rw[e];refine List.Perm.trans ?_ h.perm;rw[e2];simp only[List.append_assoc];refine List.Perm.append_left out ?_;show(x.p::(pend l1++pend l2)).Perm _;exact List.perm_middle.symm
theorem CJ.last(h:CJ (l1++x::l2) f (m+1) acc out)(hb:x.b=false)(w:ak):CJ (l1.map (X.at w)++l2.map (X.at w)) f m acc out:=by
 have e:pend (l1.map (X.at w)++l2.map (X.at w))=pend (l1++x::l2):=by
  rw[rr,rr,qO,sk,sk,hb];simp
 exact⟨by have:=h.m;simp at this ⊢;omega,by rw[e];exact h.f,by rw[e];exact h.perm⟩
theorem CJ.more(h:CJ L f m acc out):CJ (L++[x]) (f+x.b.toNat) (m+1) (acc++if x.b then[x.p] else[]) out:=by
 have e:pend (L++[x])=pend L++(if x.b then[x.p] else[]):=by rw[rr,qO];simp[pend]
 refine⟨by have:=h.m;simp;exact this,?_,?_⟩
 .rw[e];have:=h.f;cases x.b<;>simp[this]
 rw[e,<-List.append_assoc];exact h.perm.append_right _
theorem Xr(h:WS P c0 c1 x):Acc (Dn P c0) x:=by
 cases h with
 |run h=>exact CD P c0 c1 h x.id
 |@vA g hb ha hp he=>
  have h2:iq P c0 c1 x.S x.p true x.O g x.w:=.C8 ha hp;have zm:=CD P c0 c1 h2 x.id;refine zm.inv (.Ah ha ?_);refine⟨x.w,.refl _ _,?_⟩;rw[<-he,<-hb];rfl
 |@vz g n hb ha hq he=>
  have h2:iq P c0 c1 x.S x.p false x.O g x.w:=.C7 ha hq;have zm:=CD P c0 c1 h2 x.id;refine zm.inv (.Ah ha ?_);refine⟨x.w,.refl _ _,?_⟩;rw[<-he,<-hb];rfl
theorem Inv.abr(h:Inv P c0 c1 S0 O0 gm L gs w t q)(hrun:gm.status≠.blocked)(i c:Nat):yi (gs.setIfInBounds i ph) c false=[]:=by
 refine partners_nil fun j y hy=>?_;rcases getElem?_stand gs i j y hy with⟨_,rfl⟩|⟨_,hy⟩
 .exact offersAt_ph _ _
 rcases jv j with rfl|kY
 .rw[h.zero] at hy;cases hy;exact nt hrun _ _
 by_cases ha:act L j
 .obtain⟨x,hx,rfl⟩:=ha;rw[(h.slot x hx).1] at hy;cases hy;cases(h.ws x hx).1 with
  |run hp=>exact nt (by rw[hp.running];simp) _ _
  |vA _ _ _ e=>rw[e];exact offersAt_parked_send' _ _ _ _ _ _
  |vz _ _ _ e=>rw[e];exact offersAt_parked_send' _ _ _ _ _ _
 exact nt (by rcases(h.old j y kY hy ha).status with e|e<;>rw[e]<;>simp) _ _
theorem yn(hw:x.w=w){w2:ak}(hr:ja (fun c=>x.S c\/x.O c) w w2):Sh (x.at w2) x:=⟨w2,by rw[hw];exact hr,rfl⟩
theorem Inv.Ah(h:Inv P c0 c1 S0 O0 gm (l1++x::l2) gs w t q)(hrun:gm.status=.running){c:Nat}{v:ai}(ha:AtSend P c v x.g)(hc:c=c0\/c=c1)(Lx:WS P c0 c1 { x with g:=iP x.g #[og c v zS] .send })(sl:Option (Nat × Nat)) :
  ∃gs',runT P (rZ gs w sl) x.id=(.next (rZ gs' w sl),#[])/\Inv P c0 c1 S0 O0 gm (l1.map (X.at w)++{ x with g:=iP x.g #[og c v zS] .send }::l2.map (X.at w)) gs' w t q:=by
 have hx:=nT (x:=x) (l1:=l1) (l2:=l2);have hs:=h.slot x hx;have hlt:x.id<gs.size:=(ag.1 hs.1).1;have hch:Chan c w:=hc.elim (fun e=>e▸h.DR) fun e=>e▸h.DN;obtain⟨s,tm,hch⟩:=hch;have hid:(x.id==0)=false:=by have:=hs.2;simp;omega
 have kh:=crowd_waits (P:=P) (sl:=sl) hs.1 (show fE P (x.id==0) x.g w=_ by rw[hid];exact ha.2.2.2 w) (fun cc hcc=>by
  simp only[fp,m6] at hcc;subst hcc
  exact ways_send_none hch (fF _) (h.abr (by rw[hrun];simp) _ _))
 refine⟨_,kh,?_⟩
 have:=(h.replace (x2:={ x with g:=iP x.g #[og c v zS] .send }) rfl rfl rfl Lx (h.ws x hx).2 (w':=w) (gm':=gm) (gs':=gs.setIfInBounds x.id (iP x.g #[og c v zS] .send)) (t':=t)
  (by rw[aB (by have:=hs.2;omega)];exact h.zero) (bg hlt) (fun i _ hi=>aB (CP hi)) sN rfl (fun _ _ _=>rfl) h.DR h.DN h.pt (fun _=>rfl) h.wk0 h.st0).1
 exact this
theorem ze{wn:ak}(hrun:gm.status=.running)
  (afv:∀L gs w sl t q,Inv P c0 c1 S0 O0 gm L gs w t q->CJ L f m acc out->ja (fun c=>S0 c\/O0 c) wn w->∃gs' w' aM,runT P (rZ gs w sl) 0=(.next (rZ gs' w' sl),aM)/\BN w'=BN w/\w.heap.size<=w'.heap.size/\Goal P Fin gs' w' sl (t++aM)) :
  ∀L gs w sl t q,Inv P c0 c1 S0 O0 gm L gs w t q->CJ L f m acc out->ja (fun c=>S0 c\/O0 c) wn w->Goal P Fin gs w sl t:=by
 have key:∀L,Acc (LT (Dn P c0) Sh) L->∀M L0 gs w sl t q,qd Sh L0 L->sumTo gs.size q=M->Inv P c0 c1 S0 O0 gm L0 gs w t q->CJ L0 f m acc out->ja (fun c=>S0 c\/O0 c) wn w->Goal P Fin gs w sl t:=by
  intro L hL
  induction hL with
  |intro L _ ihL=>
   intro M
   induction M using Nat.strongRecOn with
   |ind M ihM=>
    intro L0 gs w sl t q hsh hM hinv pJ hrel;obtain⟨i,y,d1,EY,hi,hy,hst⟩:=crowd_pick (P:=P) (w:=w) (sl:=sl) hinv.awake ⟨0,gm,hinv.zero,hrun⟩;have fA:=hinv.draw (w':=w.at d1) rfl;have uq:=pJ.at (w.at d1);have yz:ja (fun c=>S0 c\/O0 c) wn (w.at d1):=hrel.trans (ub rfl);have KG:qd Sh (L0.map (X.at (w.at d1))) L:=(qd.EA (f:=X.at (w.at d1)) L0 fun z hz=>yn (w2:=w.at d1) (hinv.ws z hz).2 (ub rfl)).trans pg hsh;rcases jv i with rfl|kY
    .obtain⟨gs',w',aM,h1,h2,h3,h4⟩:=afv _ gs (w.at d1) EY t q fA uq yz;exact Goal.step (hst.trans h1) h2 h3 h4
    by_cases ha:act (L0.map (X.at (w.at d1))) i
    .obtain⟨x,hx,rfl⟩:=ha;obtain⟨l1,l2,zh⟩:=List.append_of_mem hx;rw[zh] at fA uq KG;have VD:=nT (x:=x) (l1:=l1) (l2:=l2);have Pz:=fA.slot x VD;rw[Pz.1] at hi;have hyx:x.g=y:=aT hi;subst hyx;have hxw:=(fA.ws x VD).2;have hid:(x.id==0)=false:=sP;cases(fA.ws x VD).1 with
     |vA _ _ _ e=>rw[e] at hy;cases hy
     |vz _ _ _ e=>rw[e] at hy;cases hy
     |run hp=>
      obtain⟨id,S,p,b,O,g,wx⟩:=x;dsimp only at hp hxw hy Pz hid;subst hxw;cases hp with
      |step hr hd M4 Ri=>
       obtain⟨g2,w2,es,he,yC,hr2,hd2⟩:=M4 (w.at d1) (.refl _ _);have hwp:=Ri (w.at d1) (.refl _ _) g2 w2 es he;have kh:=Ep (P:=P) (sl:=EY) (i:=id) Pz.1 (by rw[hid];exact he);obtain⟨l5,wX⟩:=fA.Us yC hwp g.frame.fn g.frame.place;rw[fA.woken l5.DR l5.DN] at kh
       have hlt:=LT.Vh (D:=Dn P c0) (E:=Sh) (f:=X.at w2) (x:=⟨id,S,p,b,O,g,w.at d1⟩) (x':=⟨id,S,p,b,own O (w.at d1) w2,g2,w2⟩) (.step (w1:=w.at d1) (w2:=w2) (g2:=g2) (es:=es) hr (.refl _ _) he (m7 _)) (l2:=l2)
        (fun z hz=>yn (fA.ws z (bX (bL.2 (.inr hz)))).2 (by
         refine⟨yC.grow,fun c hc=>yC.keep c (fA.geo.lt z (bX (bL.2 (.inr hz))) c hc).1 fun ho=>?_⟩;have hh:=fA.geo.ww _ VD z (bX (bL.2 (.inr hz))) (fun e=>oH fA.nodup z (bL.2 (.inr hz)) e.symm) c ho
         exact hc.elim hh.1 hh.2)) (l1:=l1)
        (fun z hz=>yn (fA.ws z (bX (bL.2 (.inl hz)))).2 (by
         refine⟨yC.grow,fun c hc=>yC.keep c (fA.geo.lt z (bX (bL.2 (.inl hz))) c hc).1 fun ho=>?_⟩;have hh:=fA.geo.ww _ VD z (bX (bL.2 (.inl hz))) (fun e=>oH fA.nodup z (bL.2 (.inl hz)) e.symm) c ho
         exact hc.elim hh.1 hh.2))
       refine Goal.step (hst.trans kh) yC.BN yC.grow ?_;exact ihL _ (hlt.shift pg (Gl P c0) KG) _ _ _ _ _ _ q (.refl m7 _) rfl l5 (uq.mid (x2:=⟨id,S,p,b,own O (w.at d1) w2,g2,w2⟩) rfl rfl w2) (yz.trans wX)
      |@C8 _ _ _ ha hp2=>
       obtain⟨gs',h1,h2⟩:=fA.Ah hrun ha (.inl rfl) (.vA rfl ha hp2 rfl) EY;refine Goal.step (hst.trans h1) rfl (aJ _) ?_
       have hlt:=LT.Vh (D:=Dn P c0) (E:=Sh) (f:=X.at (w.at d1)) (x:=⟨id,S,p,true,O,g,w.at d1⟩) (x':=⟨id,S,p,true,O,iP g #[og c0 p zS] .send,w.at d1⟩) (.Ah ha (m7 _)) (l2:=l2)
        (fun z hz=>yn (fA.ws z (bX (bL.2 (.inr hz)))).2 (.refl _ _)) (l1:=l1) (fun z hz=>yn (fA.ws z (bX (bL.2 (.inl hz)))).2 (.refl _ _))
       rw[eA];exact ihL _ (hlt.shift pg (Gl P c0) KG) _ _ _ _ _ _ q (.refl m7 _) rfl h2 (uq.mid (x2:=⟨id,S,p,true,O,iP g #[og c0 p zS] .send,w.at d1⟩) rfl rfl _) yz
      |@C7 _ _ _ n ha hq=>
       obtain⟨gs',h1,h2⟩:=fA.Ah hrun ha (.inr rfl) (.vz rfl ha hq rfl) EY;refine Goal.step (hst.trans h1) rfl (aJ _) ?_
       have hlt:=LT.Vh (D:=Dn P c0) (E:=Sh) (f:=X.at (w.at d1)) (x:=⟨id,S,p,false,O,g,w.at d1⟩) (x':=⟨id,S,p,false,O,iP g #[og c1 (.bool true) zS] .send,w.at d1⟩) (.Ah ha (m7 _)) (l2:=l2)
        (fun z hz=>yn (fA.ws z (bX (bL.2 (.inr hz)))).2 (.refl _ _)) (l1:=l1) (fun z hz=>yn (fA.ws z (bX (bL.2 (.inl hz)))).2 (.refl _ _))
       rw[eA];exact ihL _ (hlt.shift pg (Gl P c0) KG) _ _ _ _ _ _ q (.refl m7 _) rfl h2 (uq.mid (x2:=⟨id,S,p,false,O,iP g #[og c1 (.bool true) zS] .send,w.at d1⟩) rfl rfl _) yz
    obtain⟨gs',aM,q',h1,h2,h3,h4⟩:=fA.slip hi kY hy ha EY;refine Goal.step (hst.trans h1) rfl (aJ _) ?_;exact ihM _ (by rw[h3,<-hM];exact h4) _ _ _ _ _ q' KG rfl h2 uq yz
 intro L gs w sl t q hinv pJ hrel;exact key L (GY m7 pg (Gl P c0) L fun x hx=>Xr (hinv.ws x hx).1) _ L gs w sl t q (.refl m7 _) rfl hinv pJ hrel
end
section
variable{P:aK}{c0 c1:Nat}{z0 z1:ai}{Fin:List ai->List ai->(Nat->Prop)->(Nat->Prop)->aC->ak->Prop}{S0 O0:Nat->Prop}{gm:aC}{L l1 l2:List X}{x x2:X}{gs gs':Array aC}{w w':ak}{t u:Trace}{q:Nat->Nat}
 {sl sl':Option (Nat × Nat)} {f m:Nat} {acc out:List ai} {aM:Array MemOp}
theorem LY(w:ak)(d c s:Nat)(tm:Bool){x:Obj}(hc:w.heap[c]?=some x):((w.at d).setChan c 0 #[] false s s tm).heap[c]?=some (.chan 0 #[] false s s tm):=by
 show((w.heap).setIfInBounds c _)[c]?=_;exact bg (eY hc)
theorem uR(w:ak)(d c s:Nat)(tm:Bool){b:Nat}(hb:b≠c):((w.at d).setChan c 0 #[] false s s tm).heap[b]?=w.heap[b]?:=by
 show((w.heap).setIfInBounds c _)[b]?=_;exact aB (CP hb)
theorem kP(w:ak)(d c s:Nat)(tm:Bool):((w.at d).setChan c 0 #[] false s s tm).heap.size=w.heap.size:=by
 show((w.heap).setIfInBounds c _).size=_;simp
theorem A6{c c' s:Nat}{tm:Bool}(d:Nat)(hc:w.heap[c]?=some (.chan 0 #[] false s s tm))(h:Chan c' w):Chan c' ((w.at d).setChan c 0 #[] false (s+1) (s+1) tm):=by
 by_cases e:c'=c
 .subst e;exact⟨s+1,tm,LY w d c' (s+1) tm hc⟩
 obtain⟨s',tm',h⟩:=h;exact⟨s',tm',by rw[uR w d c (s+1) tm e];exact h⟩
theorem Inv.found(h:Inv P c0 c1 S0 O0 gm (l1++x::l2) gs w t q){g2:aC}(hp:iq P c0 c1 x.S x.p false x.O g2 x.w){s:Nat}{tm:Bool}(hc:w.heap[c0]?=some (.chan 0 #[] false s s tm))(d:Nat){gm':aC}(hrun:gm'.status=.running)
  (g0:gs'[0]?=some gm') (gx:gs'[x.id]?=some g2) (gr:∀i,i≠0->i≠x.id->gs'[i]?=gs[i]?) (gz:gs'.size=gs.size) (hu:JJ x.id c0 s u) :
  Inv P c0 c1 S0 O0 gm' (l1.map (X.at ((w.at d).setChan c0 0 #[] false (s+1) (s+1) tm))++{ x with b:=false,g:=g2,w:=(w.at d).setChan c0 0 #[] false (s+1) (s+1) tm }::l2.map (X.at ((w.at d).setChan c0 0 #[] false (s+1) (s+1) tm))) gs' ((w.at d).setChan c0 0 #[] false (s+1) (s+1) tm) (t++u) q/\
   ja (fun c=>S0 c\/O0 c) w ((w.at d).setChan c0 0 #[] false (s+1) (s+1) tm):=by
 have hx:=nT (x:=x) (l1:=l1) (l2:=l2);have VS:=hu.mute (B':=w.heap.size) (eY hc)
 refine h.replace (x2:={ x with b:=false,g:=g2,w:=(w.at d).setChan c0 0 #[] false (s+1) (s+1) tm }) rfl rfl rfl (.run (hp.rely _ _ _ ?_)) rfl g0 gx gr gz (kP ..) (fun c hc0 _=>uR w d c0 (s+1) tm hc0) (A6 d hc h.DR) (A6 d hc h.DN)
  (h.pt.aeh (aJ _) hu (eY hc) ⟨x,hx,rfl⟩ fun g=>by simp) (fun i=>iN _ _ _ fun op hop=>(VS op hop).2.1) (fun g g' w' _ _=>woken_run hrun) (.inl hrun)
 rw[(h.ws x hx).2];exact⟨Nat.le_of_eq (kP w d c0 (s+1) tm).symm,fun c hcc=>uR w d c0 (s+1) tm (h.geo.lt x hx c hcc).2.1⟩
theorem Inv.last(h:Inv P c0 c1 S0 O0 gm (l1++x::l2) gs w t q){g2:aC}{n:Nat}(hq:QuitsD P n 0 g2){s:Nat}{tm:Bool}(hc:w.heap[c1]?=some (.chan 0 #[] false s s tm))(d:Nat){gm':aC}(hrun:gm'.status=.running)
  (g0:gs'[0]?=some gm') (gx:gs'[x.id]?=some g2) (gr:∀i,i≠0->i≠x.id->gs'[i]?=gs[i]?) (gz:gs'.size=gs.size) (hu:JJ x.id c1 s u) :
  Inv P c0 c1 S0 O0 gm' (l1.map (X.at ((w.at d).setChan c1 0 #[] false (s+1) (s+1) tm))++l2.map (X.at ((w.at d).setChan c1 0 #[] false (s+1) (s+1) tm))) gs' ((w.at d).setChan c1 0 #[] false (s+1) (s+1) tm) (t++u) (upd q x.id n)/\
   ja (fun c=>S0 c\/O0 c) w ((w.at d).setChan c1 0 #[] false (s+1) (s+1) tm):=by
 have hx:=nT (x:=x) (l1:=l1) (l2:=l2);have VS:=hu.mute (B':=w.heap.size) (eY hc)
 exact h.cut hq g0 gx gr gz (kP ..) (fun c _ hc1=>uR w d c1 (s+1) tm hc1) (A6 d hc h.DR) (A6 d hc h.DN)
  (h.pt.Sd (aJ _) hu (eY hc) ⟨x,hx,rfl⟩) (fun i=>iN _ _ _ fun op hop=>(VS op hop).2.1) (fun g g' w' _ _=>woken_run hrun) (.inl hrun)
theorem Ex{i j:Nat}(VY:j≠i)(hi:i<gs.size)(hj:j<gs.size)(a b:aC):((gs.setIfInBounds j a).setIfInBounds i b)[i]?=some b/\((gs.setIfInBounds j a).setIfInBounds i b)[j]?=some a/\(∀k,k≠i->k≠j->((gs.setIfInBounds j a).setIfInBounds i b)[k]?=gs[k]?)/\((gs.setIfInBounds j a).setIfInBounds i b).size=gs.size:=by
 refine⟨bg (by simpa using hi),?_,fun k h1 h2=>?_,sN⟩
 .rw[aB (CP VY),bg hj]
 rw[aB (CP h1),aB (CP h2)]
theorem FD(hne:c0≠c1)(g:aC):offersAt (iP g (km c0 c1 z0 z1) .select) c0 false=[0]/\offersAt (iP g (km c0 c1 z0 z1) .select) c1 false=[1]:=by
 have hb:(c1==c0)=false:=beq_eq_false_iff_ne.2 (CP hne);have hb':(c0==c1)=false:=beq_eq_false_iff_ne.2 hne;constructor<;>simp[offersAt,iP,km,rcase,hne,CP hne]
theorem Inv.QR(h:Inv P c0 c1 S0 O0 (iP gm (km c0 c1 z0 z1) .select) L gs w t q){i:Nat}(hi:i≠0){c k:Nat}(ho:offersAt (iP gm (km c0 c1 z0 z1) .select) c false=[k]):yi (gs.setIfInBounds i ph) c false=[(0,k)]:=by
 have h0:(gs.setIfInBounds i ph)[0]?=some (iP gm (km c0 c1 z0 z1) .select):=by rw[aB hi];exact h.zero
 rw[partners_one h0 fun j y hj hy=>?_,ho]
 .rfl
 rcases getElem?_stand gs i j y hy with⟨_,rfl⟩|⟨_,hy⟩
 .exact offersAt_ph _ _
 by_cases ha:act L j
 .obtain⟨x,hx,rfl⟩:=ha;rw[(h.slot x hx).1] at hy;cases hy;cases(h.ws x hx).1 with
  |run hp=>exact nt (by rw[hp.running];simp) _ _
  |vA _ _ _ e=>rw[e];exact offersAt_parked_send' _ _ _ _ _ _
  |vz _ _ _ e=>rw[e];exact offersAt_parked_send' _ _ _ _ _ _
 exact nt (by rcases(h.old j y oN hy ha).status with e|e<;>rw[e]<;>simp) _ _
theorem LO{wn:ak}
  (H0:∀v f',f=f'+1->v∈acc->∀w,ja (fun c=>S0 c\/O0 c) wn w->∀L gs sl t q,Inv P c0 c1 S0 O0 (iV P c0 c1 z0 z1 gm 0 v) L gs w t q->CJ L f' (m+1) acc (out++[v])->Goal P Fin gs w sl t)
  (H1:f<=m->∀w,ja (fun c=>S0 c\/O0 c) wn w->∀L gs sl t q,Inv P c0 c1 S0 O0 (iV P c0 c1 z0 z1 gm 1 (.bool true)) L gs w t q->CJ L f m acc out->Goal P Fin gs w sl t) :
  ∀L gs w sl t q,Inv P c0 c1 S0 O0 (iP gm (km c0 c1 z0 z1) .select) L gs w t q->CJ L f (m+1) acc out->ja (fun c=>S0 c\/O0 c) wn w->(∀x∈L,x.g.status=.running)->Goal P Fin gs w sl t:=by
 have key:∀L,Acc (LT (Dn P c0) Sh) L->∀M L0 gs w sl t q,qd Sh L0 L->sumTo gs.size q=M->Inv P c0 c1 S0 O0 (iP gm (km c0 c1 z0 z1) .select) L0 gs w t q->CJ L0 f (m+1) acc out->ja (fun c=>S0 c\/O0 c) wn w->(∀x∈L0,x.g.status=.running)->Goal P Fin gs w sl t:=by
  intro L hL
  induction hL with
  |intro L _ ihL=>
   intro M
   induction M using Nat.strongRecOn with
   |ind M ihM=>
    intro L0 gs w sl t q hsh hM hinv pJ hrel hun
    obtain⟨x0,hx0⟩:∃x,x∈L0:=by
     cases L0 with
     |nil=>have:=pJ.m;simp at this
     |cons a l=>exact⟨a,sN⟩
    obtain⟨i,y,d1,EY,hi,hy,hst⟩:=crowd_pick (P:=P) (w:=w) (sl:=sl) hinv.awake ⟨x0.id,x0.g,(hinv.slot x0 hx0).1,hun x0 hx0⟩;have fA:=hinv.draw (w':=w.at d1) rfl;have uq:=pJ.at (w.at d1);have yz:ja (fun c=>S0 c\/O0 c) wn (w.at d1):=hrel.trans (ub rfl)
    have abI:∀x∈L0.map (X.at (w.at d1)),x.g.status=.running:=fun x hx=>by
     obtain⟨z,hz,rfl⟩:=oI.1 hx;exact hun z hz
    have KG:qd Sh (L0.map (X.at (w.at d1))) L:=(qd.EA (f:=X.at (w.at d1)) L0 fun z hz=>yn (w2:=w.at d1) (hinv.ws z hz).2 (ub rfl)).trans pg hsh;rcases jv i with rfl|kY
    .rw[hinv.zero] at hi;cases hi;cases hy
    by_cases ha:act (L0.map (X.at (w.at d1))) i
    .obtain⟨x,hx,rfl⟩:=ha;obtain⟨l1,l2,zh⟩:=List.append_of_mem hx;rw[zh] at fA uq KG abI;have VD:=nT (x:=x) (l1:=l1) (l2:=l2);have Pz:=fA.slot x VD;rw[Pz.1] at hi;have hyx:x.g=y:=aT hi;subst hyx;have hxw:=(fA.ws x VD).2;have hid:(x.id==0)=false:=sP;have ab3:x.id<gs.size:=(ag.1 Pz.1).1;have Tt:0<gs.size:=hinv.size;cases(fA.ws x VD).1 with
     |vA _ _ _ e=>rw[e] at hy;cases hy
     |vz _ _ _ e=>rw[e] at hy;cases hy
     |run hp=>
      obtain⟨id,S,p,b,O,g,wx⟩:=x;dsimp only at hp hxw hy Pz hid ab3 kY;subst hxw;cases hp with
      |step hr hd M4 Ri=>
       obtain⟨g2,w2,es,he,yC,hr2,hd2⟩:=M4 (w.at d1) (.refl _ _);have hwp:=Ri (w.at d1) (.refl _ _) g2 w2 es he;have kh:=Ep (P:=P) (sl:=EY) (i:=id) Pz.1 (by rw[hid];exact he);obtain⟨l5,wX⟩:=fA.Us yC hwp g.frame.fn g.frame.place;rw[fA.woken l5.DR l5.DN] at kh
       have hlt:=LT.Vh (D:=Dn P c0) (E:=Sh) (f:=X.at w2) (x:=⟨id,S,p,b,O,g,w.at d1⟩) (x':=⟨id,S,p,b,own O (w.at d1) w2,g2,w2⟩) (.step (w1:=w.at d1) (w2:=w2) (g2:=g2) (es:=es) hr (.refl _ _) he (m7 _)) (l2:=l2)
        (fun z hz=>yn (fA.ws z (bX (bL.2 (.inr hz)))).2 (by
         refine⟨yC.grow,fun c hc=>yC.keep c (fA.geo.lt z (bX (bL.2 (.inr hz))) c hc).1 fun ho=>?_⟩;have hh:=fA.geo.ww _ VD z (bX (bL.2 (.inr hz))) (fun e=>oH fA.nodup z (bL.2 (.inr hz)) e.symm) c ho
         exact hc.elim hh.1 hh.2)) (l1:=l1)
        (fun z hz=>yn (fA.ws z (bX (bL.2 (.inl hz)))).2 (by
         refine⟨yC.grow,fun c hc=>yC.keep c (fA.geo.lt z (bX (bL.2 (.inl hz))) c hc).1 fun ho=>?_⟩;have hh:=fA.geo.ww _ VD z (bX (bL.2 (.inl hz))) (fun e=>oH fA.nodup z (bL.2 (.inl hz)) e.symm) c ho
         exact hc.elim hh.1 hh.2))
       refine Goal.step (hst.trans kh) yC.BN yC.grow ?_;refine ihL _ (hlt.shift pg (Gl P c0) KG) _ _ _ _ _ _ q (.refl m7 _) rfl l5 (uq.mid (x2:=⟨id,S,p,b,own O (w.at d1) w2,g2,w2⟩) rfl rfl w2) (yz.trans wX) fun z hz=>?_;rcases gV.1 hz with rfl|⟨z',hz',rfl⟩
       .exact hr2
       exact abI z' (bX hz')
      |@C8 _ _ _ ha hp2=>
       obtain⟨s,tm,hch⟩:=fA.DR;have VU:=crowd_send_meets_sel (P:=P) (sl:=EY) (j:=0) (k:=0) (gj:=gm) (cs:=km c0 c1 z0 z1) (shj:=.select) (zj:=z0) Pz.1 (show fE P (id==0) g (w.at d1)=_ by rw[hid];exact ha.2.2.2 (w.at d1)) hch oN fA.zero rfl (fA.QR oN (FD fA.ne gm).1);obtain⟨e1,e2,e3,e4⟩:=Ex (gs:=gs) (i:=id) (j:=0) oN ab3 Tt (iV P c0 c1 z0 z1 gm 0 p) (fG g au);obtain⟨f',hf',AG⟩:=uq.found (x2:=⟨id,S,p,false,O,fG g au,(w.at d1).setChan c0 0 #[] false (s+1) (s+1) tm⟩) rfl rfl ((w.at d1).setChan c0 0 #[] false (s+1) (s+1) tm)
       obtain⟨l5,wX⟩:=fA.found (g2:=fG g au) hp2 hch d1 (gm':=iV P c0 c1 z0 z1 gm 0 p) rfl e2 e1 (fun i h1 h2=>e3 i h2 h1) e4 (u:=#[{ g:=id,fn:=g.frame.fn,pos:=g.frame.place,act:=.send c0 s },{ g:=0,fn:=gm.frame.fn,pos:=gm.frame.place,act:=.recv c0 s 0 },{ g:=id,fn:=g.frame.fn,pos:=g.frame.place,act:=.sendDone c0 s },{ g:=0,fn:=gm.frame.fn,pos:=gm.frame.place,act:=.recvDone c0 s }])
        ⟨_,_,_,_,_,_,_,_,_,rfl⟩
       refine Goal.step (hst.trans VU) rfl (Nat.le_of_eq (kP w d1 c0 (s+1) tm).symm) ?_;exact H0 p f' hf' (uq.mem (x:=⟨id,S,p,true,O,g,w.at d1⟩) rfl) _ (yz.trans wX) _ _ _ _ q l5 AG
      |@C7 _ _ _ n ha hq=>
       obtain⟨s,tm,hch⟩:=fA.DN;have VU:=crowd_send_meets_sel (P:=P) (sl:=EY) (j:=0) (k:=1) (gj:=gm) (cs:=km c0 c1 z0 z1) (shj:=.select) (zj:=z1) Pz.1 (show fE P (id==0) g (w.at d1)=_ by rw[hid];exact ha.2.2.2 (w.at d1)) hch oN fA.zero rfl (fA.QR oN (FD fA.ne gm).2);obtain⟨e1,e2,e3,e4⟩:=Ex (gs:=gs) (i:=id) (j:=0) oN ab3 Tt (iV P c0 c1 z0 z1 gm 1 (.bool true)) (fG g au);have AG:=uq.last rfl ((w.at d1).setChan c1 0 #[] false (s+1) (s+1) tm)
       obtain⟨l5,wX⟩:=fA.last (g2:=fG g au) hq hch d1 (gm':=iV P c0 c1 z0 z1 gm 1 (.bool true)) rfl e2 e1 (fun i h1 h2=>e3 i h2 h1) e4 (u:=#[{ g:=id,fn:=g.frame.fn,pos:=g.frame.place,act:=.send c1 s },{ g:=0,fn:=gm.frame.fn,pos:=gm.frame.place,act:=.recv c1 s 0 },{ g:=id,fn:=g.frame.fn,pos:=g.frame.place,act:=.sendDone c1 s },{ g:=0,fn:=gm.frame.fn,pos:=gm.frame.place,act:=.recvDone c1 s }])
        ⟨_,_,_,_,_,_,_,_,_,rfl⟩
       refine Goal.step (hst.trans VU) rfl (Nat.le_of_eq (kP w d1 c1 (s+1) tm).symm) ?_;exact H1 AG.le _ (yz.trans wX) _ _ _ _ _ l5 AG
    obtain⟨gs',aM,q',h1,h2,h3,h4⟩:=fA.slip hi kY hy ha EY;refine Goal.step (hst.trans h1) rfl (aJ _) ?_;exact ihM _ (by rw[h3,<-hM];exact h4) _ _ _ _ _ q' KG rfl h2 uq yz abI
 intro L gs w sl t q hinv pJ hrel hun;exact key L (GY m7 pg (Gl P c0) L fun x hx=>Xr (hinv.ws x hx).1) _ L gs w sl t q (.refl m7 _) rfl hinv pJ hrel hun
end
section
variable{P:aK}{c0 c1:Nat}{z0 z1:ai}{Fin:List ai->List ai->(Nat->Prop)->(Nat->Prop)->aC->ak->Prop}{S0 O0:Nat->Prop}{gm:aC}{L l1 l2:List X}{x x2:X}{gs gs':Array aC}{w w':ak}{t u:Trace}{q:Nat->Nat}
 {sl sl':Option (Nat × Nat)} {f m:Nat} {acc out:List ai} {aM:Array MemOp}
theorem Inv.QL(h:Inv P c0 c1 S0 O0 gm L gs w t q){c j k:Nat}(hjk:(j,k)∈yi (gs.setIfInBounds 0 ph) c true) :
  k=0/\j≠0/\∃x∈L,x.id=j/\((c=c0/\x.b=true/\∃g,AtSend P c0 x.p g/\iq P c0 c1 x.S x.p false x.O (fG g au) x.w/\x.g=iP g #[og c0 x.p zS] .send)\/
   (c=c1/\x.b=false/\∃g n,AtSend P c1 (.bool true) g/\QuitsD P n 0 (fG g au)/\x.g=iP g #[og c1 (.bool true) zS] .send)):=by
 obtain⟨g,hg,hk⟩:=mem_partners.1 hjk;rcases getElem?_stand gs 0 j g hg with⟨_,rfl⟩|⟨hj,hg⟩
 .rw[offersAt_ph] at hk;cases hk
 by_cases ha:act L j
 .obtain⟨x,hx,rfl⟩:=ha;rw[(h.slot x hx).1] at hg;cases hg;cases(h.ws x hx).1 with
  |run hp=>rw[nt (by rw[hp.running];simp)] at hk;cases hk
  |@vA g hb ha hp e=>
   rw[e,offersAt_parked_send] at hk;split at hk
   .rename_i hc;simp only[m6] at hk;exact⟨hk,hj,x,hx,rfl,.inl ⟨hc.symm,hb,g,ha,hp,e⟩⟩
   cases hk
  |@vz g n hb ha hq e=>
   rw[e,offersAt_parked_send] at hk;split at hk
   .rename_i hc;simp only[m6] at hk;exact⟨hk,hj,x,hx,rfl,.inr ⟨hc.symm,hb,g,n,ha,hq,e⟩⟩
   cases hk
 rw[nt (by rcases(h.old j g oN hg ha).status with e|e<;>rw[e]<;>simp)] at hk;cases hk
theorem I4{g gj:aC}{a b:Array CommCase}{sh sh':CommShape}(h:iP g a sh=iP gj b sh'):fG gj au=fG g undef:=by
 have h1:g.frame=gj.frame:=by have:=congrArg Goroutine.frame h;exact this
 have h2:g.callers=gj.callers:=by have:=congrArg Goroutine.callers h;exact this
 have h3:g.dying=gj.dying:=by have:=congrArg Goroutine.dying h;exact this
 unfold fG;rw[h1,h2,h3]
theorem Ag{g gj:aC}{a b:Array CommCase}{sh sh':CommShape}(h:iP g a sh=iP gj b sh'):a=b/\sh=sh':=by
 have:(iP g a sh).offers=(iP gj b sh').offers:=by rw[h]
 simpa [iP] using this
theorem I7{c c':Nat}{v v' z z':ai}(h:og c v z=og c' v' z'):c=c'/\v=v':=by
 simp only[og,CommCase.mk.injEq,Value.chan.injEq,ia] at h;exact⟨h.1,h.2.1⟩
theorem SJ{g:aC}{wn:ak}(h:gX P c0 c1 z0 z1 Fin f m acc out S0 O0 g wn) :
  ∀w,ja (fun c=>S0 c\/O0 c) wn w->∀L gs sl t q,Inv P c0 c1 S0 O0 g L gs w t q->CJ L f m acc out->Goal P (fun acc out S O g w=>Fin acc out S O g w/\Chan c0 w/\Chan c1 w) gs w sl t:=by
 induction h with
 |@fin acc out S O g wn hs qF=>
  intro w hr L gs sl t q hinv pJ;have hL:L=[]:=List.eq_nil_of_length_eq_zero pJ.m;subst hL;have hno:∀g,¬act [] g:=fun g ⟨x,hx,_⟩=>by cases hx
  refine⟨0,gs,g,w,sl,t,q,acc,out,S,O,rfl,⟨hinv.zero,⟨fun i y hi hy=>hinv.old i y hi hy (hno i),hinv.above⟩,hinv.pt.past hno⟩,⟨qF w hr,hinv.DR,hinv.DN⟩,?_,rfl,aJ _⟩;have:=pJ.perm;simpa [pend] using this
 |@step f m acc out S O g wn hr hd M4 Ri ih=>
  intro w hrel L gs sl t q hinv pJ;refine ze (f:=f) (m:=m) (acc:=acc) (out:=out) (wn:=wn) hr (fun L gs w sl t q hinv pJ hrel=>?_) L gs w sl t q hinv pJ hrel;obtain⟨g2,w2,es,he,yC,hr2,hd2⟩:=M4 w hrel;have l5:=hinv.abx yC hr2 g.frame.fn g.frame.place;have kh:=Ep (P:=P) (sl:=sl) (i:=0) hinv.zero (show fE P (0==0) g w=_ from he);rw[hinv.woken l5.DR l5.DN] at kh;exact⟨_,_,_,kh,yC.BN,yC.grow,ih w hrel g2 w2 es he w2 (.refl _ _) _ _ sl _ q l5 (pJ.at w2)⟩
 |@spawn f m acc out S O Sk S' O' g g' child wn b p hgo hr2 hcr hSk hp Oq hO' hm ih=>
  intro w hrel L gs sl t q hinv pJ;refine ze (f:=f) (m:=m) (acc:=acc) (out:=out) (wn:=wn) hgo.1 (fun L gs w sl t q hinv pJ hrel=>?_) L gs w sl t q hinv pJ hrel;have kh:=runT_crowd_spawn (P:=P) (sl:=sl) (i:=0) hinv.zero (show fE P (0==0) g w=_ from hgo.2.2 w);have hpw:iq P c0 c1 Sk p b (fun _=>False) child w:=hp.rely _ _ _ ⟨hrel.grow,fun c hc=>hrel.keep c (hSk c (by simpa using hc))⟩;have l5:=hinv.spawn hr2 hSk Oq hO' hpw (y:={ g:=0,fn:=g.frame.fn,pos:=g.frame.place,act:=.go gs.size }) (z:={ g:=gs.size,fn:=child.frame.fn,pos:=g.frame.place,act:=.start }) ⟨rfl,rfl⟩ ⟨rfl,rfl⟩;refine⟨_,_,_,kh,rfl,aJ _,?_⟩;exact ih w ⟨hrel.grow,fun c hc=>hrel.keep c (hc.elim (Oq c) fun h=>.inr (hO' c h).1)⟩ _ _ sl _ q l5 (pJ.more (x:=⟨gs.size,Sk,p,b,fun _=>False,child,w⟩))
 |@select f m acc out S O g wn Y6 h0 h1 ih0 ih1=>
  intro w hrel L gs sl t q hinv pJ;refine ze (f:=f) (m:=m+1) (acc:=acc) (out:=out) (wn:=wn) Y6.1 (fun L gs w sl t q hinv pJ hrel=>?_) L gs w sl t q hinv pJ hrel;have hst:fE P (0==0) g w=.comm g #[rcase c0 z0,rcase c1 z1] true .select w #[]:=Y6.2.2.2 w;have Tt:0<gs.size:=hinv.size;obtain⟨s0,tm0,hc0⟩:=hinv.DR;obtain⟨s1,tm1,hc1⟩:=hinv.DN
  by_cases hno:yi (gs.setIfInBounds 0 ph) c0 true=[]/\yi (gs.setIfInBounds 0 ph) c1 true=[]
  .
   have kh:=crowd_waits (P:=P) (sl:=sl) hinv.zero hst (fun cc hcc=>by
    simp only[fp,bQ,g_,or_false] at hcc;rcases hcc with rfl|rfl
    .exact ways_recv_none hc0 hno.1
    exact ways_recv_none hc1 hno.2)
   have hun:∀x∈L,x.g.status=.running:=fun x hx=>by
    have hs:=hinv.slot x hx;have hmem:∀c k,k∈offersAt x.g c true->(x.id,k)∈yi (gs.setIfInBounds 0 ph) c true:=fun c k hk=>mem_partners.2 ⟨x.g,by rw[aB (by have:=hs.2;omega)];exact hs.1,hk⟩;cases(hinv.ws x hx).1 with
    |run hp=>exact hp.running
    |vA _ _ _ e=>
     have:=hmem c0 0 (by rw[e,offersAt_parked_send];simp);rw[hno.1] at this;cases this
    |vz _ _ _ e=>
     have:=hmem c1 0 (by rw[e,offersAt_parked_send];simp);rw[hno.2] at this;cases this
   have l5:Inv P c0 c1 S O (iP g (km c0 c1 z0 z1) .select) L (gs.setIfInBounds 0 (iP g (km c0 c1 z0 z1) .select)) w t q:=by
    refine⟨bg Tt,fun x hx=>⟨?_,(hinv.slot x hx).2⟩,hinv.ws,hinv.nodup,fun i y hi hy ha=>?_,fun j hj=>hinv.above j (by simpa using hj),hinv.pt,hinv.geo,hinv.DR,hinv.DN,hinv.ne,fun a a' w' hw0 hw1=>?_,.inr rfl⟩
    .rw[aB (by have:=(hinv.slot x hx).2;omega)];exact(hinv.slot x hx).1
    .rw[aB oN] at hy;exact hinv.old i y hi hy ha
    have hag:(iP g (km c0 c1 z0 z1) .select).again w'=iP g (km c0 c1 z0 z1) .select:=by
     refine again_all_open fun cc hcc=>?_;obtain⟨s,tm,e0⟩:=hw0;obtain⟨s',tm',e1⟩:=hw1;simp only[km,fp,bQ,g_,or_false] at hcc;rcases hcc with rfl|rfl
     .exact⟨c0,z0,0,#[],s,s,tm,rfl,e0⟩
     exact⟨c1,z1,0,#[],s',s',tm',rfl,e1⟩
    unfold Conc.woken;split
    .exact hag
    rfl
   refine⟨_,_,_,kh,rfl,aJ _,?_⟩;exact LO (P:=P) (f:=f) (m:=m) (acc:=acc) (out:=out) (wn:=wn) (fun v f' e hv w hr=>ih0 v f' e hv w hr) (fun hf w hr=>ih1 hf w hr) L _ w sl _ q (by rw[show t++iQ 0 g.frame.fn g.frame.place #[]=t from eA ..];exact l5) pJ hrel hun
  
  obtain⟨kk,c,s,r,tm,j,gj,vj,zj,shj,d,F3,hj0,hgj,kh⟩:=Ig (P:=P) (sl:=sl) hinv.zero hst hc0 hc1
   (by
    rcases Classical.em (yi (gs.setIfInBounds 0 ph) c0 true=[]) with e|e
    .exact .inr fun e'=>hno ⟨e,e'⟩
    exact .inl e)
   (fun c hc j k hjk=>by
    obtain⟨hk,hj,x,hx,rfl,MZ⟩:=hinv.QL hjk;refine⟨hk,hj,?_⟩;have hs:=(hinv.slot x hx).1;rcases MZ with⟨rfl,_,g',_,_,e⟩|⟨rfl,_,g',_,_,_,e⟩
    .exact⟨g',x.p,zS,.send,by rw[hs,e]⟩
    exact⟨g',.bool true,zS,.send,by rw[hs,e]⟩)
  have hcc:c=c0\/c=c1:=by rcases F3 with⟨_,h,_⟩|⟨_,h,_⟩<;>simp[h]
  have afB:j<gs.size:=(ag.1 hgj).1;have hmem:(j,0)∈yi (gs.setIfInBounds 0 ph) c true:=mem_partners.2 ⟨_,by rw[aB (CP hj0)];exact hgj,by rw[offersAt_parked_send];simp⟩;obtain⟨_,_,x,hx,rfl,MZ⟩:=hinv.QL hmem
  have KD:x.g=iP gj #[og c vj zj] shj:=by
   have:=(hinv.slot x hx).1;rw[hgj] at this;exact(aT this).symm
  obtain⟨l1,l2,zh⟩:=List.append_of_mem hx;subst zh;rcases MZ with⟨rfl,hb,g',ha,hp,e⟩|⟨rfl,hb,g',n,ha,hq,e⟩
  .rw[e] at KD;obtain⟨e1,e2⟩:=Ag KD;have e3:og c x.p zS=og c vj zj:=by simpa using e1
   obtain⟨_,rfl⟩:=I7 e3;subst e2
   have hk0:kk=0/\s=s0/\r=s0/\tm=tm0:=by
    rcases F3 with⟨h1,_,h2,h3,h4⟩|⟨_,h1,_⟩
    .exact⟨h1,h2,h3,h4⟩
    exact absurd h1 hinv.ne
   obtain⟨rfl,rfl,rfl,rfl⟩:=hk0
   have qF:gj.finishComm P #[og c x.p zj] .send 0 au false=fG g' undef:=by
    rw[finishComm_send];exact I4 KD
   rw[qF] at kh;obtain⟨g1,g2,g3,g4⟩:=Ex (gs:=gs) (i:=0) (j:=x.id) hj0 Tt afB (fG g' au) (iV P c c1 z0 z1 g 0 x.p)
   obtain⟨l5,wX⟩:=hinv.found (g2:=fG g' au) hp hc0 d (gm':=iV P c c1 z0 z1 g 0 x.p) rfl g1 g2 (fun i a b=>g3 i a b) g4 (u:=#[{ g:=x.id,fn:=gj.frame.fn,pos:=gj.frame.place,act:=.send c r },{ g:=0,fn:=g.frame.fn,pos:=g.frame.place,act:=.recv c r 0 },{ g:=x.id,fn:=gj.frame.fn,pos:=gj.frame.place,act:=.sendDone c r },{ g:=0,fn:=g.frame.fn,pos:=g.frame.place,act:=.recvDone c r }])
    ⟨_,_,_,_,_,_,_,_,_,rfl⟩
   obtain⟨f',hf',AG⟩:=pJ.found (x2:={ x with b:=false,g:=fG g' au,w:=(w.at d).setChan c 0 #[] false (r+1) (r+1) tm }) hb rfl ((w.at d).setChan c 0 #[] false (r+1) (r+1) tm);exact⟨_,_,_,kh,rfl,Nat.le_of_eq (kP w d c (r+1) tm).symm,ih0 x.p f' hf' (pJ.mem hb) _ (hrel.trans wX) _ _ sl _ q l5 AG⟩
  rw[e] at KD;obtain⟨e1,e2⟩:=Ag KD;have e3:og c (.bool true) zS=og c vj zj:=by simpa using e1
  obtain⟨_,rfl⟩:=I7 e3;subst e2
  have hk0:kk=1/\s=s1/\r=s1/\tm=tm1:=by
   rcases F3 with⟨_,h1,_⟩|⟨h1,_,h2,h3,h4⟩
   .exact absurd h1.symm hinv.ne
   exact⟨h1,h2,h3,h4⟩
  obtain⟨rfl,rfl,rfl,rfl⟩:=hk0
  have qF:gj.finishComm P #[og c (.bool true) zj] .send 0 au false=fG g' undef:=by
   rw[finishComm_send];exact I4 KD
  rw[qF] at kh;obtain⟨g1,g2,g3,g4⟩:=Ex (gs:=gs) (i:=0) (j:=x.id) hj0 Tt afB (fG g' au) (iV P c0 c z0 z1 g 1 (.bool true))
  obtain⟨l5,wX⟩:=hinv.last (g2:=fG g' au) hq hc1 d (gm':=iV P c0 c z0 z1 g 1 (.bool true)) rfl g1 g2 (fun i a b=>g3 i a b) g4 (u:=#[{ g:=x.id,fn:=gj.frame.fn,pos:=gj.frame.place,act:=.send c r },{ g:=0,fn:=g.frame.fn,pos:=g.frame.place,act:=.recv c r 0 },{ g:=x.id,fn:=gj.frame.fn,pos:=gj.frame.place,act:=.sendDone c r },{ g:=0,fn:=g.frame.fn,pos:=g.frame.place,act:=.recvDone c r }])
   ⟨_,_,_,_,_,_,_,_,_,rfl⟩
  have AG:=pJ.last hb ((w.at d).setChan c 0 #[] false (r+1) (r+1) tm);exact⟨_,_,_,kh,rfl,Nat.le_of_eq (kP w d c (r+1) tm).symm,ih1 AG.le _ (hrel.trans wX) _ _ sl _ _ l5 AG⟩
theorem Kb(hne:c0≠c1){g:aC}{w:ak}(h:gX P c0 c1 z0 z1 Fin 0 0 [] [] S0 O0 g w)(hg:g.status=.running)(hc0:Chan c0 w)(hc1:Chan c1 w)(ajn:∀c,S0 c\/O0 c->c<w.heap.size/\c≠c0/\c≠c1)(Om:∀c,S0 c->¬O0 c) :
  rP P (fun g' w'=>∃acc out S O,(Fin acc out S O g' w'/\Chan c0 w'/\Chan c1 w')/\out.Perm acc/\w.heap.size<=w'.heap.size/\w'.os=w.os/\w'.output=w.output) g w:=by
 intro I d gs sl t q hb;have hrel:ja (fun c=>S0 c\/O0 c) w (dR w I d):=⟨aJ _,fun _ _=>rfl⟩
 have hinv:Inv P c0 c1 S0 O0 g [] gs (dR w I d) t q:=by
  refine⟨hb.zero,fun x hx=>(by cases hx),fun x hx=>(by cases hx),List.nodup_nil,fun i y hi hy _=>hb.old.old i y hi hy,hb.old.above,?_,?_,hc0,hc1,hne,fun _ _ _ _ _=>woken_run hg,.inl hg⟩
  .exact(PT.YI (S:=SL []) (O:=OL []) hb.past).congr (fun g=>⟨fun⟨x,hx,_⟩=>(by cases hx),fun h=>h.elim⟩) (fun g hg=>hg.elim) fun g hg=>hg.elim
  exact⟨ajn,Om,fun x hx=>by(cases hx),fun x hx=>by(cases hx),fun x hx=>by(cases hx),fun x hx=>by(cases hx),fun x hx=>by(cases hx)⟩
 obtain⟨N,gs',g',w',sl',t',q',acc,out,S,O,h1,h2,h3,h4,h5,h6⟩:=SJ h _ hrel [] gs sl t q hinv ⟨rfl,rfl,by simp[pend]⟩;refine⟨N,gs',g',w',w'.drawn,sl',t',q',?_,h2,acc,out,S,O,h3,h4,h6,congrArg (·.2.1) h5,congrArg (·.2.2) h5⟩;rw[h1]
 have:w'=dR w' I w'.drawn:=by
  have e:w'.tape=I:=congrArg (·.1) h5;cases w';simp only at e;subst e;rfl
 rw[<-this]
end
end Go.Lag
namespace Go.Proofs.YtffladgmkiimjaaGreatDoor
open Go.Lag
def UN:Tryz.prog.funcs.all (fun fn=>fn.body.all eo)=true:=kN
def Yv:Tryz.prog.follows .staticDataAhead=true:=kN
def QO:Tryz.prog.funcs.all (fun fn=>!(fn.name == "runtime.NumGoroutine"))=true:=kN
end Go.Proofs.YtffladgmkiimjaaGreatDoor
namespace Go.Lag
section
variable{P:aK}
theorem xN(s:String):Calm P Any (Extern.RuntimeError.text s):=trivial
theorem xQ{α:Type}{Q:α->Prop}{c:Prop}[Decidable c]{t:c->Sem α}{e:¬c->Sem α}(ht:∀h,Calm P Q (t h))(he:∀h,Calm P Q (e h)):Calm P Q (dite c t e):=by
 split
 .exact ht _
 exact he _
theorem ZE(o:Option String)(f:String->String):Calm P Any (match o with|some fmt=>Extern.RuntimeError.text (f fmt)|none=>stuck "boundsError: no such code"):=by
 cases o
 .exact bG
 exact xN _
theorem Cp(args):Calm P Any (Extern.RuntimeError.boundsError args):=by
 unfold Extern.RuntimeError.boundsError
 delta Extern.RuntimeError.boundsError.match_2
 refine xQ (c:=args.size=1) (fun h=>?_) fun h=>bG;obtain⟨l⟩:=args
 match l,h with
 |[a],h=>
  cases a with
  |agg cs=>
   refine xQ (c:=cs.size=4) (fun h=>?_) fun h=>bG;obtain⟨l⟩:=cs
   match l,h with
   |[x0,x1,x2,x3],h=>
    cases x0 with
    |int _ _=>
     cases x1 with
     |int _ _=>
      cases x2 with
      |bool _=>
       cases x3 with
       |int _ _=>exact ZE _ _
       |_=>exact bG
      |_=>exact bG
     |_=>exact bG
    |_=>exact bG
  |_=>exact bG
theorem xh(v):Calm P Any (Extern.RuntimeError.described v):=by
 unfold Extern.RuntimeError.described
 repeat' (first
   |(with_reducible first|exact ve ..|exact jR ..|exact ly ..|exact vp ..|exact nK ..|exact rN ..|exact fM ..|exact cZ|exact vh|exact bG|exact eb|exact kZ|exact vo|exact rL|exact uC)
   |(with_reducible first|exact rM|exact vg|exact sU|exact sT|exact mA|exact jK|exact n9|exact p_)
   |with_reducible exact(mr rfl)|with_reducible exact(jk rfl)
   |(with_reducible assumption)|(with_reducible apply nI;exact rfl)|(with_reducible refine rF ?_ (fun o ho=>by cases o<;>first|rfl|(revert ho;simp[gg];done)))|(refine kI (fun _ _=>?_) ?_)|(refine aQ ?_ (fun _=>?_))|(refine xg ?_)|(refine qT (fun _=>?_) _)|(refine jI (fun _ _=>?_) _ _)|(refine mL (fun _ _=>?_) _ _)|(refine mK (fun _ _=>?_) _ _)|split|intro _|dsimp only|trivial)
theorem Gx(i):Calm P Any (Extern.RuntimeError.pkgpathOf i):=by
 unfold Extern.RuntimeError.pkgpathOf
 repeat' (first
   |(with_reducible first|exact ve ..|exact jR ..|exact ly ..|exact vp ..|exact nK ..|exact rN ..|exact fM ..|exact cZ|exact vh|exact bG|exact eb|exact kZ|exact vo|exact rL|exact uC)
   |(with_reducible first|exact rM|exact vg|exact sU|exact sT|exact mA|exact jK|exact n9|exact p_)
   |with_reducible exact(mr rfl)|with_reducible exact(jk rfl)
   |(with_reducible assumption)|(with_reducible apply nI;exact rfl)|(with_reducible refine rF ?_ (fun o ho=>by cases o<;>first|rfl|(revert ho;simp[gg];done)))|(refine kI (fun _ _=>?_) ?_)|(refine aQ ?_ (fun _=>?_))|(refine xg ?_)|(refine qT (fun _=>?_) _)|(refine jI (fun _ _=>?_) _ _)|(refine mL (fun _ _=>?_) _ _)|(refine mK (fun _ _=>?_) _ _)|split|intro _|dsimp only|trivial)
theorem uA(args):Calm P Any (Extern.RuntimeError.typeAssertionError args):=by
 unfold Extern.RuntimeError.typeAssertionError
 repeat' (first
   |(with_reducible first|exact ve ..|exact jR ..|exact ly ..|exact vp ..|exact nK ..|exact rN ..|exact fM ..|exact xN ..|exact xh ..|exact Gx ..|exact cZ|exact vh|exact bG|exact eb|exact kZ|exact vo|exact rL|exact uC)
   |(with_reducible first|exact rM|exact vg|exact sU|exact sT|exact mA|exact jK|exact n9|exact p_)
   |with_reducible exact(mr rfl)|with_reducible exact(jk rfl)
   |(with_reducible assumption)|(with_reducible apply nI;exact rfl)|(with_reducible refine rF ?_ (fun o ho=>by cases o<;>first|rfl|(revert ho;simp[gg];done)))|(refine kI (fun _ _=>?_) ?_)|(refine aQ ?_ (fun _=>?_))|(refine xg ?_)|(refine qT (fun _=>?_) _)|(refine jI (fun _ _=>?_) _ _)|(refine mL (fun _ _=>?_) _ _)|(refine mK (fun _ _=>?_) _ _)|split|intro _|dsimp only|trivial)
theorem Xg(o:Option TypeInfo):Calm P Any (match o with|some t=>Extern.RuntimeError.text ("hash of unhashable type: "++t.str)|_=>runtimePanic RuntimeError.nilDeref):=by
 cases o
 .exact fM _
 exact xN _
theorem tG(args):Calm P Any (Extern.RuntimeError.unhashableTypeError args):=by
 unfold Extern.RuntimeError.unhashableTypeError
 delta Extern.RuntimeError.unhashableTypeError.match_1
 refine xQ (c:=args.size=1) (fun h=>?_) fun h=>bG;obtain⟨l⟩:=args
 match l,h with
 |[a],h=>
  cases a with
  |agg cs=>
   refine xQ (c:=cs.size=1) (fun h=>?_) fun h=>bG;obtain⟨l⟩:=cs
   match l,h with
   |[x0],h=>exact aQ (xh _) fun o=>Xg o
  |_=>exact bG
structure ZQ(P:aK)(e:Option (Array ai->Sem ai)):Prop where
 ok:∀x,e=some x->∀args,Calm P Any (x args)
theorem gh{f:en}{fn:Func}(hf:P.funcs[f]?=some fn)(hb:fn.body=none)(hn:(fn.name == "runtime.NumGoroutine")=false)(h1:dD fn=none)(h2:ZQ P (fW fn))(args:Array ai):Calm P fj (fT f args):=by
 unfold fT;refine fg (R:=fun p=>p=P) (show P=P from rfl) ?_;rintro p rfl;rw[hf];have hb':fn.body.isNone=true:=by rw[hb];rfl
 simp only[hn,hb',h1,bF,if_false,if_true];refine aQ (show Calm p Any (mark (.extern f)) from⟨.inr ⟨f,rfl⟩,trivial⟩) fun _=>?_;generalize fW fn=e at h2;cases e with
 |some e=>exact aQ (h2.ok e rfl args) fun _=>trivial
 |none=>
  dsimp only;split
  .exact trivial
  exact eb
end
end Go.Lag
namespace Go.Proofs.YtffladgmkiimjaaGreatDoor
open Go.Lag
def nb0{P:aK}(hP:P.funcs[(0:Nat)]?=some Tryz.f0)(args:Array ai):Go.Lag.Calm P Go.Lag.fj (fT (0:Nat) args):=by
 have h1:dD Tryz.f0=none:=kN;have h2:fW Tryz.f0=none:=lH.1 kN;have h3:Tryz.f0.body=none:=kN
 have h4:(Tryz.f0.name == "runtime.NumGoroutine")=false:=kN;refine gh (P:=P) (f:=(0:Nat)) (fn:=Tryz.f0) hP h3 h4 h1 ⟨fun x hx=>?_⟩ args;rw[h2] at hx;cases hx
def nb1{P:aK}(hP:P.funcs[(1:Nat)]?=some Tryz.f1)(args:Array ai):Go.Lag.Calm P Go.Lag.fj (fT (1:Nat) args):=by
 have h1:dD Tryz.f1=none:=kN;have h2:fW Tryz.f1=none:=lH.1 kN;have h3:Tryz.f1.body=none:=kN
 have h4:(Tryz.f1.name == "runtime.NumGoroutine")=false:=kN;refine gh (P:=P) (f:=(1:Nat)) (fn:=Tryz.f1) hP h3 h4 h1 ⟨fun x hx=>?_⟩ args;rw[h2] at hx;cases hx
def aeT{P:aK}(hP:P.funcs[(202:Nat)]?=some Tryz.f202)(args:Array ai):Go.Lag.Calm P Go.Lag.fj (fT (202:Nat) args):=by
 have h1:dD Tryz.f202=none:=kN;have h2:fW Tryz.f202=some Extern.RuntimeError.boundsError:=kN;have h3:Tryz.f202.body=none:=kN
 have h4:(Tryz.f202.name == "runtime.NumGoroutine")=false:=kN;refine gh (P:=P) (f:=(202:Nat)) (fn:=Tryz.f202) hP h3 h4 h1 ⟨fun x hx=>?_⟩ args;rw[h2] at hx;cases hx;exact Cp
def aeS{P:aK}(hP:P.funcs[(203:Nat)]?=some Tryz.f203)(args:Array ai):Go.Lag.Calm P Go.Lag.fj (fT (203:Nat) args):=by
 have h1:dD Tryz.f203=none:=kN;have h2:fW Tryz.f203=some Extern.RuntimeError.nothing:=kN;have h3:Tryz.f203.body=none:=kN
 have h4:(Tryz.f203.name == "runtime.NumGoroutine")=false:=kN;refine gh (P:=P) (f:=(203:Nat)) (fn:=Tryz.f203) hP h3 h4 h1 ⟨fun x hx=>?_⟩ args;rw[h2] at hx;cases hx;exact fun args=>trivial
def aeR{P:aK}(hP:P.funcs[(204:Nat)]?=some Tryz.f204)(args:Array ai):Go.Lag.Calm P Go.Lag.fj (fT (204:Nat) args):=by
 have h1:dD Tryz.f204=none:=kN
 have h2:fW Tryz.f204=some (fun args=>do pure (.string ("runtime error: ".toUTF8++(<-asString (args.getD 0 (cR #[])))))):=kN;have h3:Tryz.f204.body=none:=kN
 have h4:(Tryz.f204.name == "runtime.NumGoroutine")=false:=kN;refine gh (P:=P) (f:=(204:Nat)) (fn:=Tryz.f204) hP h3 h4 h1 ⟨fun x hx=>?_⟩ args;rw[h2] at hx;cases hx;exact fun args=>aQ (ly ..) fun _=>trivial
def aeQ{P:aK}(hP:P.funcs[(205:Nat)]?=some Tryz.f205)(args:Array ai):Go.Lag.Calm P Go.Lag.fj (fT (205:Nat) args):=by
 have h1:dD Tryz.f205=none:=kN;have h2:fW Tryz.f205=some Extern.RuntimeError.nothing:=kN;have h3:Tryz.f205.body=none:=kN
 have h4:(Tryz.f205.name == "runtime.NumGoroutine")=false:=kN;refine gh (P:=P) (f:=(205:Nat)) (fn:=Tryz.f205) hP h3 h4 h1 ⟨fun x hx=>?_⟩ args;rw[h2] at hx;cases hx;exact fun args=>trivial
def aeP{P:aK}(hP:P.funcs[(206:Nat)]?=some Tryz.f206)(args:Array ai):Go.Lag.Calm P Go.Lag.fj (fT (206:Nat) args):=by
 have h1:dD Tryz.f206=none:=kN;have h2:fW Tryz.f206=some (fun args=>do pure (.string (<-asString (args.getD 0 (cR #[]))))):=kN;have h3:Tryz.f206.body=none:=kN
 have h4:(Tryz.f206.name == "runtime.NumGoroutine")=false:=kN;refine gh (P:=P) (f:=(206:Nat)) (fn:=Tryz.f206) hP h3 h4 h1 ⟨fun x hx=>?_⟩ args;rw[h2] at hx;cases hx;exact fun args=>aQ (ly ..) fun _=>trivial
def aeO{P:aK}(hP:P.funcs[(207:Nat)]?=some Tryz.f207)(args:Array ai):Go.Lag.Calm P Go.Lag.fj (fT (207:Nat) args):=by
 have h1:dD Tryz.f207=none:=kN;have h2:fW Tryz.f207=some Extern.RuntimeError.nothing:=kN;have h3:Tryz.f207.body=none:=kN
 have h4:(Tryz.f207.name == "runtime.NumGoroutine")=false:=kN;refine gh (P:=P) (f:=(207:Nat)) (fn:=Tryz.f207) hP h3 h4 h1 ⟨fun x hx=>?_⟩ args;rw[h2] at hx;cases hx;exact fun args=>trivial
def aeN{P:aK}(hP:P.funcs[(208:Nat)]?=some Tryz.f208)(args:Array ai):Go.Lag.Calm P Go.Lag.fj (fT (208:Nat) args):=by
 have h1:dD Tryz.f208=none:=kN
 have h2:fW Tryz.f208=some (fun args=>do pure (.string ("runtime error: ".toUTF8++(<-asString ((<-asAgg (args.getD 0 (cR #[]))).getD 0 (cR #[])))))):=kN;have h3:Tryz.f208.body=none:=kN
 have h4:(Tryz.f208.name == "runtime.NumGoroutine")=false:=kN;refine gh (P:=P) (f:=(208:Nat)) (fn:=Tryz.f208) hP h3 h4 h1 ⟨fun x hx=>?_⟩ args;rw[h2] at hx;cases hx;exact fun args=>aQ (vp ..) fun _=>aQ (ly ..) fun _=>trivial
def aeM{P:aK}(hP:P.funcs[(209:Nat)]?=some Tryz.f209)(args:Array ai):Go.Lag.Calm P Go.Lag.fj (fT (209:Nat) args):=by
 have h1:dD Tryz.f209=none:=kN;have h2:fW Tryz.f209=some Extern.RuntimeError.nothing:=kN;have h3:Tryz.f209.body=none:=kN
 have h4:(Tryz.f209.name == "runtime.NumGoroutine")=false:=kN;refine gh (P:=P) (f:=(209:Nat)) (fn:=Tryz.f209) hP h3 h4 h1 ⟨fun x hx=>?_⟩ args;rw[h2] at hx;cases hx;exact fun args=>trivial
def aeL{P:aK}(hP:P.funcs[(210:Nat)]?=some Tryz.f210)(args:Array ai):Go.Lag.Calm P Go.Lag.fj (fT (210:Nat) args):=by
 have h1:dD Tryz.f210=none:=kN;have h2:fW Tryz.f210=some Extern.RuntimeError.typeAssertionError:=kN;have h3:Tryz.f210.body=none:=kN
 have h4:(Tryz.f210.name == "runtime.NumGoroutine")=false:=kN;refine gh (P:=P) (f:=(210:Nat)) (fn:=Tryz.f210) hP h3 h4 h1 ⟨fun x hx=>?_⟩ args;rw[h2] at hx;cases hx;exact uA
def aeK{P:aK}(hP:P.funcs[(211:Nat)]?=some Tryz.f211)(args:Array ai):Go.Lag.Calm P Go.Lag.fj (fT (211:Nat) args):=by
 have h1:dD Tryz.f211=none:=kN;have h2:fW Tryz.f211=some Extern.RuntimeError.nothing:=kN;have h3:Tryz.f211.body=none:=kN
 have h4:(Tryz.f211.name == "runtime.NumGoroutine")=false:=kN;refine gh (P:=P) (f:=(211:Nat)) (fn:=Tryz.f211) hP h3 h4 h1 ⟨fun x hx=>?_⟩ args;rw[h2] at hx;cases hx;exact fun args=>trivial
def aeJ{P:aK}(hP:P.funcs[(212:Nat)]?=some Tryz.f212)(args:Array ai):Go.Lag.Calm P Go.Lag.fj (fT (212:Nat) args):=by
 have h1:dD Tryz.f212=none:=kN
 have h2:fW Tryz.f212=some (fun _=>Extern.RuntimeError.text "runtime error: panic called with nil argument"):=kN;have h3:Tryz.f212.body=none:=kN
 have h4:(Tryz.f212.name == "runtime.NumGoroutine")=false:=kN;refine gh (P:=P) (f:=(212:Nat)) (fn:=Tryz.f212) hP h3 h4 h1 ⟨fun x hx=>?_⟩ args;rw[h2] at hx;cases hx;exact fun args=>xN _
def aeI{P:aK}(hP:P.funcs[(213:Nat)]?=some Tryz.f213)(args:Array ai):Go.Lag.Calm P Go.Lag.fj (fT (213:Nat) args):=by
 have h1:dD Tryz.f213=none:=kN;have h2:fW Tryz.f213=some Extern.RuntimeError.nothing:=kN;have h3:Tryz.f213.body=none:=kN
 have h4:(Tryz.f213.name == "runtime.NumGoroutine")=false:=kN;refine gh (P:=P) (f:=(213:Nat)) (fn:=Tryz.f213) hP h3 h4 h1 ⟨fun x hx=>?_⟩ args;rw[h2] at hx;cases hx;exact fun args=>trivial
def aeH{P:aK}(hP:P.funcs[(214:Nat)]?=some Tryz.f214)(args:Array ai):Go.Lag.Calm P Go.Lag.fj (fT (214:Nat) args):=by
 have h1:dD Tryz.f214=none:=kN;have h2:fW Tryz.f214=none:=lH.1 kN;have h3:Tryz.f214.body=none:=kN
 have h4:(Tryz.f214.name == "runtime.NumGoroutine")=false:=kN;refine gh (P:=P) (f:=(214:Nat)) (fn:=Tryz.f214) hP h3 h4 h1 ⟨fun x hx=>?_⟩ args;rw[h2] at hx;cases hx
def aeG{P:aK}(hP:P.funcs[(215:Nat)]?=some Tryz.f215)(args:Array ai):Go.Lag.Calm P Go.Lag.fj (fT (215:Nat) args):=by
 have h1:dD Tryz.f215=none:=kN;have h2:fW Tryz.f215=some Extern.RuntimeError.unhashableTypeError:=kN;have h3:Tryz.f215.body=none:=kN
 have h4:(Tryz.f215.name == "runtime.NumGoroutine")=false:=kN;refine gh (P:=P) (f:=(215:Nat)) (fn:=Tryz.f215) hP h3 h4 h1 ⟨fun x hx=>?_⟩ args;rw[h2] at hx;cases hx;exact tG
def aeF{P:aK}(hP:P.funcs[(216:Nat)]?=some Tryz.f216)(args:Array ai):Go.Lag.Calm P Go.Lag.fj (fT (216:Nat) args):=by
 have h1:dD Tryz.f216=none:=kN;have h2:fW Tryz.f216=some Extern.RuntimeError.nothing:=kN;have h3:Tryz.f216.body=none:=kN
 have h4:(Tryz.f216.name == "runtime.NumGoroutine")=false:=kN;refine gh (P:=P) (f:=(216:Nat)) (fn:=Tryz.f216) hP h3 h4 h1 ⟨fun x hx=>?_⟩ args;rw[h2] at hx;cases hx;exact fun args=>trivial
def aeE{P:aK}(hP:P.funcs[(217:Nat)]?=some Tryz.f217)(args:Array ai):Go.Lag.Calm P Go.Lag.fj (fT (217:Nat) args):=by
 have h1:dD Tryz.f217=none:=kN;have h2:fW Tryz.f217=some (fun args=>do pure (strVal (Go.Extern.Rtype.kindName (<-asInt (args.getD 0 (cR #[]))).toNat))):=kN;have h3:Tryz.f217.body=none:=kN
 have h4:(Tryz.f217.name == "runtime.NumGoroutine")=false:=kN;refine gh (P:=P) (f:=(217:Nat)) (fn:=Tryz.f217) hP h3 h4 h1 ⟨fun x hx=>?_⟩ args;rw[h2] at hx;cases hx;exact fun args=>aQ (rN ..) fun _=>trivial
def aeD{P:aK}(hP:P.funcs[(227:Nat)]?=some Tryz.f227)(args:Array ai):Go.Lag.Calm P Go.Lag.fj (fT (227:Nat) args):=by
 have h1:dD Tryz.f227=none:=kN;have h2:fW Tryz.f227=none:=lH.1 kN;have h3:Tryz.f227.body=none:=kN
 have h4:(Tryz.f227.name == "runtime.NumGoroutine")=false:=kN;refine gh (P:=P) (f:=(227:Nat)) (fn:=Tryz.f227) hP h3 h4 h1 ⟨fun x hx=>?_⟩ args;rw[h2] at hx;cases hx
def aeC{P:aK}(hP:P.funcs[(228:Nat)]?=some Tryz.f228)(args:Array ai):Go.Lag.Calm P Go.Lag.fj (fT (228:Nat) args):=by
 have h1:dD Tryz.f228=none:=kN;have h2:fW Tryz.f228=none:=lH.1 kN;have h3:Tryz.f228.body=none:=kN
 have h4:(Tryz.f228.name == "runtime.NumGoroutine")=false:=kN;refine gh (P:=P) (f:=(228:Nat)) (fn:=Tryz.f228) hP h3 h4 h1 ⟨fun x hx=>?_⟩ args;rw[h2] at hx;cases hx
def aeB{P:aK}(hP:P.funcs[(229:Nat)]?=some Tryz.f229)(args:Array ai):Go.Lag.Calm P Go.Lag.fj (fT (229:Nat) args):=by
 have h1:dD Tryz.f229=none:=kN;have h2:fW Tryz.f229=none:=lH.1 kN;have h3:Tryz.f229.body=none:=kN
 have h4:(Tryz.f229.name == "runtime.NumGoroutine")=false:=kN;refine gh (P:=P) (f:=(229:Nat)) (fn:=Tryz.f229) hP h3 h4 h1 ⟨fun x hx=>?_⟩ args;rw[h2] at hx;cases hx
def bl:List Nat:=[0,1,202,203,204,205,206,207,208,209,210,211,212,213,214,215,216,217,227,228,229]
def UM:(aP Tryz.prog.funcs.size).all (fun i=>(Tryz.prog.funcs[i]?.all (fun fn=>fn.body.isSome))||bl.contains i)=true:=kN
def aep{P:aK}(e:P.funcs=Tryz.prog.funcs)(f:en)(fn:Func)(args:Array ai)(hf:P.funcs[f]?=some fn)(hb:fn.body=none):Go.Lag.Calm P Go.Lag.fj (fT f args):=by
 rw[e] at hf;have hlt:f<Tryz.prog.funcs.size:=(ag.1 hf).1;have h:=a7.1 UM f (List.mem_range.2 hlt);rw[hf] at h;simp only[Option.all_some,hb,Option.isSome_none,Bool.false_or] at h;have hm:f∈bl:=by simpa using h
 clear hf h hlt;have hx:∀(n:Nat) (fN:Func),Tryz.prog.funcs[n]?=some fN->P.funcs[n]?=some fN:=fun n fN h=>by rw[e];exact h
 clear e;simp only[bl,bQ,g_,or_false] at hm;rcases hm with rfl|rfl|rfl|rfl|rfl|rfl|rfl|rfl|rfl|rfl|rfl|rfl|rfl|rfl|rfl|rfl|rfl|rfl|rfl|rfl|rfl
 .exact nb0 (hx _ _ Tryz.func0) args
 .exact nb1 (hx _ _ Tryz.func1) args
 .exact aeT (hx _ _ Tryz.func202) args
 .exact aeS (hx _ _ Tryz.func203) args
 .exact aeR (hx _ _ Tryz.func204) args
 .exact aeQ (hx _ _ Tryz.func205) args
 .exact aeP (hx _ _ Tryz.func206) args
 .exact aeO (hx _ _ Tryz.func207) args
 .exact aeN (hx _ _ Tryz.func208) args
 .exact aeM (hx _ _ Tryz.func209) args
 .exact aeL (hx _ _ Tryz.func210) args
 .exact aeK (hx _ _ Tryz.func211) args
 .exact aeJ (hx _ _ Tryz.func212) args
 .exact aeI (hx _ _ Tryz.func213) args
 .exact aeH (hx _ _ Tryz.func214) args
 .exact aeG (hx _ _ Tryz.func215) args
 .exact aeF (hx _ _ Tryz.func216) args
 .exact aeE (hx _ _ Tryz.func217) args
 .exact aeD (hx _ _ Tryz.func227) args
 .exact aeC (hx _ _ Tryz.func228) args
 exact aeB (hx _ _ Tryz.func229) args
end Go.Proofs.YtffladgmkiimjaaGreatDoor
namespace Go.Lag
def ob{α β:Type}{x:Option α}{f:α->Option β}{b:β}(h:(x >>= f)=some b):∃a,x=some a/\f a=some b:=by
 cases x with
 |none=>cases h
 |some a=>exact⟨a,rfl,h⟩
def wM{info:aV->Option TypeInfo}{fs:Array Field}{i:TypeInfo}(h:Made.reckonStruct info fs=some i):i.methods = #[]:=by
 unfold Made.reckonStruct at h;obtain⟨s,_,h⟩:=ob h;dsimp only at h;split at h<;>(cases h;rfl)
def Fj{info:aV->Option TypeInfo}{d:TypeDesc}{i:TypeInfo}(h:Made.reckon info d=some i):i.methods = #[]:=by
 cases d with
 |pointer e=>
  simp only[Made.reckon] at h;obtain⟨j,_,h⟩:=ob h;split at h
  .cases h
  .split at h
   .cases h
   obtain⟨s,_,h⟩:=ob h;cases h;rfl
  obtain⟨s,_,h⟩:=ob h;cases h;rfl
 |slice e=>
  simp only[Made.reckon] at h;obtain⟨j,_,h⟩:=ob h;obtain⟨s,_,h⟩:=ob h;cases h;rfl
 |map k e=>
  simp only[Made.reckon] at h;obtain⟨j,_,h⟩:=ob h;obtain⟨s,_,h⟩:=ob h;obtain⟨j,_,h⟩:=ob h;obtain⟨s,_,h⟩:=ob h;cases h;rfl
 |chan dir e=>
  simp only[Made.reckon] at h;obtain⟨j,_,h⟩:=ob h;obtain⟨s,_,h⟩:=ob h;cases dir<;>(cases h;rfl)
 |func ps rs v=>
  simp only[Made.reckon] at h;obtain⟨j,_,h⟩:=ob h;cases h;rfl
 |array n e=>
  simp only[Made.reckon] at h;obtain⟨j,_,h⟩:=ob h;obtain⟨s,_,h⟩:=ob h;cases h;rfl
 |struct fs=>exact wM (by simpa only[Made.reckon] using h)
 |_=>cases h
def KA{T:Tables}{t:aV}{i:TypeInfo}(h:T.info? t=some i):T.types[t]?=some i\/i.methods = #[]:=by
 unfold Tables.info? at h;split at h
 .exact .inl h
 .right;generalize Made.depth=n at h;cases n with
  |zero=>cases h
  |succ n=>
   unfold Made.infoAt at h;split at h
   .contradiction
   .cases hd:Made.decode (t-T.types.size) with
    |none=>rw[hd] at h;cases h
    |some d=>rw[hd] at h;exact Fj h
section
variable{P:aK}
theorem lW{α β:Type}{x:Sem α}{f:α->Sem β}{w w':ak}{b:β}(h:(x >>= f).run P w=.ok b w'):∃a w1,x.run P w=.ok a w1/\(f a).run P w1=.ok b w':=by
 have h1:=Sem.runT_fst P (x >>= f) w #[];rw[h] at h1;have e:(x >>= f).runT P w #[]=(x.bind f).runT P w #[]:=rfl;rw[e,IC] at h1;have h2:=Sem.runT_fst P x w #[];generalize hx:x.runT P w #[]=r at h1 h2;obtain⟨r,es⟩:=r;cases r with
 |ok a w1=>
  refine⟨a,w1,h2.symm,?_⟩;have h3:=Sem.runT_fst P (f a) w1 es;rw[<-h3];exact h1
 |halt e w1=>cases h1
def Oa(P:aK)(bl:List Nat):Prop:=∀t i m,P.info? t=some i->m∈i.methods->(m.name = "Error"\/m.name = "String")->∀f b,m.func=some (f,b)->f∈bl
theorem Dr{bl:List Nat}(q:Oa P bl){name:String}(hn:name = "Error"\/name = "String"):∀(fuel:Nat) (t:aV) (v:ai) (w w':ak) (f:en) (r:ai),(Go.method fuel t v name).run P w=.ok (f,r) w'->f∈bl
 |0,t,v,w,w',f,r,h=>by cases h
 |fuel+1,t,v,w,w',f,r,h=>by
  unfold Go.method at h;obtain⟨i,w1,h1,h⟩:=lW h
  have hi:P.info? t=some i:=by
   unfold typeInfo at h1;obtain⟨p,w2,h2,h1⟩:=lW h1
   have hp:p=P:=by
    have:(Go.program).run P w=.ok P w:=rfl;rw[this] at h2;cases h2;rfl
   subst hp;cases hh:p.info? t with
   |none=>rw[hh] at h1;cases h1
   |some j=>rw[hh] at h1;cases h1;rfl
  cases hm:i.methods.find? (·.name==name) with
  |none=>rw[hm] at h;cases h
  |some m=>
   rw[hm] at h;dsimp only at h;have hmem:m∈i.methods:=Array.mem_of_find?_eq_some hm;have hname:m.name=name:=by simpa using Array.find?_some hm
   obtain⟨⟨xt,x⟩,w2,h2,h⟩:=lW h;dsimp only at h;cases hf:m.func with
   |none=>
    rw[hf] at h;dsimp only at h;obtain⟨y,w3,h3,h⟩:=lW h;cases y<;>first|exact Dr q hn fuel _ _ _ _ _ _ h|(cases h)
   |some fb=>
    obtain⟨f0,b0⟩:=fb;rw[hf] at h;dsimp only at h;obtain⟨y,w3,h3,h⟩:=lW h;cases h;exact q t i m hi hmem (by rw[hname];exact hn) _ _ hf
theorem Fx{v:ai}{t:aV}{recv:ai}{name:String}(h:panicText P false v=.call t recv name):name = "Error"\/name = "String":=by
 unfold panicText at h;split at h
 .split at h
  .cases h
  rename_i t' v' info amD;simp only[bF,if_false] at h;split at h
  .rename_i m hm;injection h with _ _ h3
   have:=Array.find?_some hm;simp only[aI,beq_iff_eq] at this;exact .inl (h3▸this.1)
  .rename_i m _ hm;injection h with _ _ h3
   have:=Array.find?_some hm;simp only[aI,beq_iff_eq] at this;exact .inr (h3▸this.1)
  split at h
  .cases h
  split at h<;>first|(cases h;done)|(split at h<;>cases h)
 all_goals first|cases h|(split at h<;>cases h)
theorem Mw{bl:List Nat}(q:Oa P bl)(hb:∀f∈bl,∃fn,P.funcs[f]?=some fn/\fn.body=none/\(dD fn).isNone=true)(todo:List (ai × String)):NoEnter P todo:=by
 intro x _ t recv name hp w f args w' h;have hn:=Fx hp;rw[Sem.runT_fst] at h;have h':(callMethod (.iface t recv) name (#[Value.iface t recv].extract 1 #[Value.iface t recv].size)).run P w=.ok (.enter f args) w':=h;unfold callMethod at h';dsimp only at h';obtain⟨p,w1,h1,h'⟩:=lW h';obtain⟨⟨F,r⟩,w2,h2,h'⟩:=lW h';obtain⟨fn,hf,hbo,hx⟩:=hb F (Dr q hn _ _ _ _ _ _ _ h2);exact callFunc_not_enter hf hbo hx _ _ _ _ _ h'
end
end Go.Lag
namespace Go.Proofs.YtffladgmkiimjaaGreatDoor
open Go.Lag
def QD(m:Method):Bool:=m.name == "Error" || m.name == "String"
def Yt:Tryz.prog.types.all (fun i=>i.methods.all fun m=>!QD m||match m.func with | some (f,_)=>bl.contains f | none=>true)=true:=kN
def aa9:bl.all (fun f=>(Tryz.prog.funcs[f]?.any fun fn=>fn.body.isNone&&(dD fn).isNone))=true:=kN
def Yu:Tryz.prog.funcs.any (fun fn=>(fn.body.map readies).any fun l=>!l.isEmpty)=false:=kN
def quiet_of{P:aK}(e:P=aq):Quiet P:=by
 refine { body:=fun f fn c hf hc=>?_,ext:=fun f fn args hf hb=>aep (by rw[e]) f fn args hf hb,name:=fun f fn hf=>?_,ahead:=by rw[e];exact Yv,steps:=fun g=>?_,enters:=fun todo=>?_ }
 .rw[e] at hf;have:=kG.1 UN fn (fB hf);rw[hc] at this;exact this
 .rw[e] at hf;have:=kG.1 QO fn (fB hf);simpa using this
 .unfold Program.stepOf;rw[Array.findIdx?_eq_none_iff];intro fn hfn;rw[e] at hfn;have:=Array.any_eq_false'.1 Yu fn hfn;cases hb:fn.body with
  |none=>rfl
  |some c=>
   rw[hb] at this;simp only[dK,Option.any_some] at this ⊢;have h2:readies c=[]:=by simpa using this
   rw[h2];rfl
 refine Mw (bl:=bl) (fun t i m hi hm hn f b hf=>?_) (fun f hf=>?_) todo
 .rcases KA hi with h|h
  .rw[e] at h;have h1:=kG.1 Yt i (fB h);have h2:=kG.1 h1 m hm
   have h3:QD m=true:=by
    rcases hn with h|h<;>simp[QD,h]
   rw[h3,hf] at h2;simpa using h2
  rw[h] at hm;simp at hm
 .have h1:=a7.1 aa9 f hf;cases hx:Tryz.prog.funcs[f]? with
  |none=>rw[hx] at h1;cases h1
  |some fn=>
   rw[hx] at h1;simp only[Option.any_some,aI,lH] at h1;exact⟨fn,by rw[e];exact hx,h1.1,by simp[h1.2]⟩
def quiet:Quiet Tryz.prog:=quiet_of rfl
def fw:Nat->Bool:=fun f=>[155,97,99,162,105,165,118,114,115,138,139,170,171,178].contains f
def aih:[155,97,99,162,105,165,118,114,115,138,139,170,171,178].all (fun f=>(Tryz.prog.funcs[f]?.any fun fn=>fn.body.any fun c=>iT aq fw c))=true:=kN
def Nr{P:aK}(e:P=aq):vQ P fw:=by
 refine⟨fun f hf=>?_⟩;have hm:f∈[155,97,99,162,105,165,118,114,115,138,139,170,171,178]:=by simpa [fw] using hf
 have h1:=a7.1 aih f hm;cases hx:Tryz.prog.funcs[f]? with
 |none=>rw[hx] at h1;cases h1
 |some fn=>
  rw[hx] at h1;simp only[Option.any_some] at h1;cases hb:fn.body with
  |none=>rw[hb] at h1;cases h1
  |some c=>
   rw[hb] at h1;simp only[Option.any_some] at h1;refine⟨fn,c,by rw[e];exact hx,hb,by rw[e];exact h1,?_⟩;have:=kG.1 QO fn (fB hx);simpa using this
end Go.Proofs.YtffladgmkiimjaaGreatDoor
namespace Go.Lag
open Go.Conc
open Classical in
noncomputable def shut (X:Nat->Prop) (w:ak):World:=
 { w with heap:=w.heap.mapIdx fun b o=>if X b then(match o with|.cells cs e z=>.cells cs e (0,max cs.size z.2)|_=>.coro none) else .coro none }
open Classical in
noncomputable def zg (X:Nat->Prop):Rn:=fun b=>if X b then some b else none
section
variable{F:Nat->Bool}{G:Nat}{X Y:Nat->Prop}{w:ak}
theorem qE{b c:Nat}:zg X b=some c↔X b/\c=b:=by
 unfold zg;split
 .rename_i h;simp[h,eq_comm]
 rename_i h;simp[h]
theorem wW{b:Nat}(h:X b):zg X b=some b:=qE.2 ⟨h,rfl⟩
theorem uk(h:∀b,X b->Y b):Rn.le (zg X) (zg Y):=fun b c hb=>by
 obtain⟨h1,h2⟩:=qE.1 hb;exact qE.2 ⟨h b h1,h2⟩
theorem xA:(shut X w).heap.size=w.heap.size:=by simp[shut]
theorem EZ{b:Nat}{cs:Array ai}{e:aV}{z:Nat × Nat}(h:w.heap[b]?=some (.cells cs e z))(hX:X b):(shut X w).heap[b]?=some (.cells cs e (0,max cs.size z.2)):=by
 simp[shut,Array.getElem?_mapIdx,h,hX]
theorem xC{a:dc}(hX:X a.block):(shut X w).cell? a=w.cell? a:=by
 unfold World.cell?;cases h:w.heap[a.block]? with
 |none=>
  have:(shut X w).heap[a.block]?=none:=by simp[shut,Array.getElem?_mapIdx,h]
  rw[this]
 |some o=>
  cases o with
  |cells cs e z=>rw[EZ h hX]
  |_=>
   have:(shut X w).heap[a.block]?=some (.coro none):=by simp[shut,Array.getElem?_mapIdx,h,hX]
   rw[this]
theorem QJ:dL (shut X w):=by
 intro b o h;simp only[shut,Array.getElem?_mapIdx] at h;cases hb:w.heap[b]? with
 |none=>rw[hb] at h;cases h
 |some x=>
  rw[hb] at h;simp only[dK,ia] at h;subst h;split
  .cases x<;>first|exact .inl rfl|exact .inr rfl
  exact .inr rfl
def Closed(F:Nat->Bool)(X:Nat->Prop)(w:ak):Prop:=∀b,X b->∃cs e z,w.heap[b]?=some (.cells cs e z)/\∀v∈cs,VR F (zg X) v v
theorem Closed.lt(h:Closed F X w){b:Nat}(hb:X b):b<w.heap.size:=by
 obtain⟨cs,e,z,h1,_⟩:=h b hb;exact eY h1
theorem QI(h:Closed F X w)(hG:∀b,X b->G<=b):WR F G (fun b=>b<w.heap.size) (zg X) (shut X w) w:=by
 refine⟨fun a b c ha hb=>?_,fun b c hb=>?_,fun b hb=>by rw[xA];exact hb,fun b c hb=>?_,fun b o hb=>?_⟩
 .rw[<-(qE.1 ha).2,(qE.1 hb).2]
 .obtain⟨h1,rfl⟩:=qE.1 hb;exact⟨hG _ h1,hG _ h1⟩
 .obtain⟨h1,rfl⟩:=qE.1 hb;obtain⟨cs,e,z,h2,h3⟩:=h c h1;refine⟨_,_,EZ h2 h1,h2,.cells ⟨rfl,fun i x y hx hy=>?_⟩ (fun i h4 h5=>⟨fF _,by simp only;omega⟩),fun _=>⟨cs,e,_,rfl,oN⟩⟩;rw[hx] at hy;cases hy;exact h3 x (fB hx)
 .simp only[shut,Array.getElem?_mapIdx] at hb;cases hx:w.heap[b]? with
  |none=>rw[hx] at hb;cases hb
  |some x=>
   rw[hx] at hb;simp only[dK,ia] at hb;subst hb;split
   .cases x<;>rfl
   rfl
theorem C0(h:Closed F X w)(c:Nat):X c↔∃b,b<w.heap.size/\zg X b=some c:=by
 constructor
 .intro hc;exact⟨c,h.lt hc,wW hc⟩
 rintro⟨b,_,hb⟩;obtain⟨h1,rfl⟩:=qE.1 hb;exact h1
theorem I3(h:Closed F X w):(zg X).owns (fun b=>b<w.heap.size)=fun _=>False:=by
 funext c
 refine propext ⟨fun⟨b,h1,h2⟩=>?_,fun h=>h.elim⟩;exact h1 (h.lt (qE.1 h2).1)
end
section
variable{P:aK}{main:Bool}{S O:Nat->Prop}{fn:en}{tmps:Array ai}{kd:kC}{k:List Item}{cs:List bY}{w:ak}{aM:Array cY}
theorem Fy(O:Nat->Prop)(w:ak):own O w w=O:=by
 funext c
 refine propext ⟨fun h=>h.elim id fun h=>absurd h.1 oN,.inl⟩
theorem F8(S O:Nat->Prop)(w:ak){es:Array gO}(h:∀e∈es,Un (fun c=>S c\/O c) O e):Lt S O w w es:=
 ⟨aJ _,fun _ _ _=>rfl,rfl,aJ _,rfl,rfl,by rw[Fy];exact h⟩
theorem iq.one{c0 c1:Nat}{p:ai}{b:Bool}{g:aC}(hr:g.status=.running)(hd:g.dying=none)
  (h:∀w1,ja (fun c=>S c\/O c) w w1->∃g' es,fE P false g w1=.go g' w1 es/\(∀e∈es,Un (fun c=>S c\/O c) O e)/\g'.status=.running/\g'.dying=none/\iq P c0 c1 S p b O g' w1):iq P c0 c1 S p b O g w:=by
 refine .step hr hd (fun w1 h1=>?_) fun w1 h1 g2 w2 es he=>?_
 .obtain⟨g',es,e,hev,h2,h3,_⟩:=h w1 h1;exact⟨g',w1,es,e,F8 S O w1 hev,h2,h3⟩
 obtain⟨g',es',e,_,_,_,h4⟩:=h w1 h1;rw[e] at he;injection he with e1 e2 e3
 subst e1;subst e2;rw[Fy];exact h4
theorem iq.ctl{c0 c1:Nat}{p:ai}{b:Bool}{g g':aC}(hr:g.status=.running)(hd:g.dying=none)(h:∀w,fE P false g w=.go g' w #[])(hr':g'.status=.running)(Oo:g'.dying=none)
  (hk:iq P c0 c1 S p b O g' w):iq P c0 c1 S p b O g w:=
 .one hr hd fun w1 h1=>⟨g',#[],h w1,sN,hr',Oo,hk.rely _ _ _ h1⟩
theorem gX.one{c0 c1:Nat}{z0 z1:ai}{Fin:List ai->List ai->(Nat->Prop)->(Nat->Prop)->aC->ak->Prop}{f m:Nat}{acc out:List ai}{g:aC}(hr:g.status=.running)(hd:g.dying=none)
  (h:∀w1,ja (fun c=>S c\/O c) w w1->∃g' es,fE P true g w1=.go g' w1 es/\(∀e∈es,Un (fun c=>S c\/O c) O e)/\g'.status=.running/\g'.dying=none/\gX P c0 c1 z0 z1 Fin f m acc out S O g' w1):gX P c0 c1 z0 z1 Fin f m acc out S O g w:=by
 refine .step hr hd (fun w1 h1=>?_) fun w1 h1 g2 w2 es he=>?_
 .obtain⟨g',es,e,hev,h2,h3,_⟩:=h w1 h1;exact⟨g',w1,es,e,F8 S O w1 hev,h2,h3⟩
 obtain⟨g',es',e,_,_,_,h4⟩:=h w1 h1;rw[e] at he;injection he with e1 e2 e3
 subst e1;subst e2;rw[Fy];exact h4
theorem gX.ctl{c0 c1:Nat}{z0 z1:ai}{Fin:List ai->List ai->(Nat->Prop)->(Nat->Prop)->aC->ak->Prop}{f m:Nat}{acc out:List ai}{g g':aC}(hr:g.status=.running)(hd:g.dying=none)(h:∀w,fE P true g w=.go g' w #[])(hr':g'.status=.running)(Oo:g'.dying=none)
  (hk:gX P c0 c1 z0 z1 Fin f m acc out S O g' w):gX P c0 c1 z0 z1 Fin f m acc out S O g w:=
 .one hr hd fun w1 h1=>⟨g',#[],h w1,sN,hr',Oo,hk.rely h1⟩
theorem Walk.keep{Stop:(Nat->Prop)->aC->ak->Prop}{O:Nat->Prop}{g:aC}{w:ak}(h:Walk P main S Stop O g w):∀w0:ak,(∀c,S c->c<w.heap.size/\¬O c/\w.heap[c]?=w0.heap[c]?)->
  Walk P main S (fun O g w'=>Stop O g w'/\∀c,S c->c<w'.heap.size/\¬O c/\w'.heap[c]?=w0.heap[c]?) O g w:=by
 induction h with
 |@stop O g w h=>
  intro w0 hk;refine .stop fun w1 hr=>⟨h w1 hr,fun c hc=>?_⟩
  obtain⟨h1,h2,h3⟩:=hk c hc;exact⟨bA h1 hr.grow,h2,(hr.keep c (.inl hc)).trans h3⟩
 |@step O g w a b c d ih=>
  intro w0 hk;refine .step a b c fun w1 hr g2 w2 es he=>ih w1 hr g2 w2 es he w0 fun x hx=>?_;obtain⟨h1,h2,h3⟩:=hk x hx;obtain⟨g3,w3,es3,he3,yC,_,_⟩:=c w1 hr;rw[he] at he3;injection he3 with e1 e2 e3
  subst e2;have hlt:x<w1.heap.size:=bA h1 hr.grow;refine⟨bA hlt yC.grow,fun ho=>ho.elim h2 fun hn=>by omega,?_⟩;rw[yC.keep x hlt h2,hr.keep x (.inl hx)];exact h3
theorem jo{w w':ak}{a:dc}(h:w'.heap[a.block]?=w.heap[a.block]?):w'.cell? a=w.cell? a:=by
 unfold World.cell?;rw[h]
abbrev GK(fn:en)(tmps:Array ai)(k:List Item)(kd:kC)(cs:List bY):Goroutine:=G (jF fn tmps k .run kd) cs
theorem j0(a b:h_)(w:ak):fE P main (GK fn tmps (.code (.seq a b)::k) kd cs) w=.go (GK fn tmps (.code a::.code b::k) kd cs) w #[]:=rfl
theorem qR(id:Nat)(c:h_)(w:ak):fE P main (GK fn tmps (.code (.block id c)::k) kd cs) w=.go (GK fn tmps (.code c::.inBlock id::k) kd cs) w #[]:=rfl
theorem NH(c:h_)(w:ak):fE P main (GK fn tmps (.code (.loop c)::k) kd cs) w=.go (GK fn tmps (.code c::.inLoop c::k) kd cs) w #[]:=rfl
theorem zr(c:h_)(w:ak):fE P main (GK fn tmps (.inLoop c::k) kd cs) w=.go (GK fn tmps (.code c::.inLoop c::k) kd cs) w #[]:=rfl
theorem pW(id:Nat)(w:ak):fE P main (GK fn tmps (.inBlock id::k) kd cs) w=.go (GK fn tmps k kd cs) w #[]:=rfl
theorem A0(w:ak):fE P main (GK fn tmps (.code .skip::k) kd cs) w=.go (GK fn tmps k kd cs) w #[]:=rfl
theorem vd(id:Nat)(aM:Array cY)(w:ak):fE P main (GK fn tmps (.code (.region id aM false)::k) kd cs) w=.go (GK fn tmps (.inRegion aM (aP aM.size)::k) kd cs) w #[]:=rfl
theorem o6(aM:Array cY)(w:ak):fE P main (GK fn tmps (.inRegion aM []::k) kd cs) w=.go (GK fn tmps k kd cs) w #[]:=rfl
theorem uy{c:bI}{a b:h_}{x:Bool}(h:(jF fn tmps (.code (.cond c a b)::k) .run kd).eval c=.bool x)(w:ak):fE P main (GK fn tmps (.code (.cond c a b)::k) kd cs) w=.go (GK fn tmps (.code (if x then a else b)::k) kd cs) w #[]:=by
 have e:fE P main (GK fn tmps (.code (.cond c a b)::k) kd cs) w=(match (jF fn tmps (.code (.cond c a b)::k) .run kd).eval c with
     |.bool x=>.go (GK fn tmps (.code (if x then a else b)::k) kd cs) w
     |_=>.ended (.stuck "cond: bool expected" ((jF fn tmps (.code (.cond c a b)::k) .run kd).pos P)) w):=rfl
 rw[e,h]
theorem Gn{id:Nat}{k':List Item}(h:exitTo id k=some k')(w:ak):fE P main (GK fn tmps (.code (.exit id)::k) kd cs) w=.go (GK fn tmps k' kd cs) w #[]:=by
 show(exitTo id k).elim _ _=_;rw[h];rfl
theorem QF{i:Nat}{rest:List Nat}{o:cY}(Ee:kd≠.early)(ho:aM[i]?=some o)(hg:o.guard=none){v:ai}{w w2:ak}{es:Array gO}
  (h:(cC (jF fn tmps (.inRegion aM (i::rest)::k) .run kd).eval o).runT P w #[]=(.ok (.value v) w2,es)) :
  fE P main (GK fn tmps (.inRegion aM (i::rest)::k) kd cs) w=.go (GK fn (match o.dst with|some d=>tmps.setIfInBounds d v|none=>tmps) (.inRegion aM rest::k) kd cs) w2 (seen P fn es):=by
 have hw:((aM[i]?).map (dg · (yielded aM tmps))).getD false=true:=by rw[ho];simp[dg,hg]
 have Zd:(kd == .early)=false:=beq_eq_false_iff_ne.2 Ee;have e1:fE P main (GK fn tmps (.inRegion aM (i::rest)::k) kd cs) w=fC P true (jF fn tmps (.inRegion aM (i::rest)::k) .run kd) cs none w:=if_pos hw
 have e2:fC P true (jF fn tmps (.inRegion aM (i::rest)::k) .run kd) cs none w=eH P true (jF fn tmps (.inRegion aM (i::rest)::k) .run kd) cs none (cC (jF fn tmps (.inRegion aM (i::rest)::k) .run kd).eval o) w:=by
  unfold fC;have:(jF fn tmps (.inRegion aM (i::rest)::k) .run kd).oper?=some o:=ho;rw[this];rfl
 rw[e1,e2];unfold eH;simp only[if_true,h];simp only[jF,Zd,bF,if_false,GStep.after,eA,Frame.finish,ho,gZ];rfl
def xH(P:aK)(t:aV):Bool:=match P.underlying t with|some (.struct _)|some (.array ..)|none=>false|_=>true
theorem Sr{t:aV}(ht:xH P t=true){a:dc}{v:ai}{w:ak}(hc:w.cell? a=some v)(es:Array gO):(wy t (.pointer (some a))).runT P w es=(.ok v w,es.push ⟨.cell a,false,false⟩):=by
 have h1:∃d,P.underlying t=some d/\(∀fs,d≠.struct fs)/\∀n e,d≠.array n e:=by
  unfold xH at ht;cases hd:P.underlying t with
  |none=>rw[hd] at ht;cases ht
  |some d=>rw[hd] at ht;exact⟨d,rfl,(fun fs e=>by subst e;cases ht),(fun n e' e=>by subst e;cases ht)⟩
 obtain⟨d,hd,h2,h3⟩:=h1
 have h4:(isAgg t).runT P w es=(.ok false w,es):=by
  show(((Sem.program fun p=>Sem.pure p).bind fun p=>(match p.underlying t with|some d=>(fo d:Sem TypeDesc)|none=>stuck "no such type")).bind fun d=>(match d with|.struct _|.array _ _=>(fo true:Sem Bool)|_=>fo false)).runT P w es=_;simp only[Sem.bind,Sem.runT,hd];cases d<;>first|rfl|exact absurd rfl (h2 _)|exact absurd rfl (h3 _ _)
 show((loadVar t a)).runT P w es=_;unfold loadVar;show((isAgg t).bind _).runT P w es=_;rw[IC,h4];simp only[bF,if_false];show(Sem.load .plain a .pure).runT P w es=_;simp only[Sem.runT,hc];rfl
theorem BH{i:Nat}{rest:List Nat}{o:cY}{d:Tmp}{t:aV}{x:bI}(Ee:kd≠.early)(ho:aM[i]?=some o)(hop:o.op=.load t x)(hd:o.dst=some d)(hg:o.guard=none)(ht:xH P t=true){a:dc}
  (hx:(jF fn tmps (.inRegion aM (i::rest)::k) .run kd).eval x=.pointer (some a)) {v:ai} {w:ak} (hc:w.cell? a=some v) :
  fE P main (GK fn tmps (.inRegion aM (i::rest)::k) kd cs) w=.go (GK fn (tmps.setIfInBounds d v) (.inRegion aM rest::k) kd cs) w (seen P fn #[⟨.cell a,false,false⟩]):=by
 obtain⟨dst,op,type,pos,after,guard⟩:=o;dsimp only at hop hd hg;subst hop;subst hd;subst hg;refine QF Ee ho rfl ?_;show((wy t ((jF fn tmps (.inRegion aM (i::rest)::k) .run kd).eval x)).bind fun v=>fo (Next.value v)).runT P w #[]=_;rw[hx,IC,Sr ht hc];rfl
theorem Gg{a:dc}(hS:S a.block)(fn:en):∀e∈seen P fn #[⟨.cell a,false,false⟩],Un (fun c=>S c\/O c) O e:=fun e he=>by
 have:=mem_seen he;simp only[fp,m6] at this;subst this;exact .inl ⟨a,rfl,rfl,.inl hS,sN⟩
theorem IZ{i:Nat}{rest:List Nat}{o:cY}{x y:bI}(Ee:kd≠.early)(ho:aM[i]?=some o)(hop:o.op=.send x y)(hg:o.guard=none){c:Nat}{v:ai}
  (hx:(jF fn tmps (.inRegion aM (i::rest)::k) .run kd).eval x=.chan (some c)) (hy:(jF fn tmps (.inRegion aM (i::rest)::k) .run kd).eval y=v):AtSend P c v (GK fn tmps (.inRegion aM (i::rest)::k) kd cs):=by
 refine⟨rfl,rfl,rfl,fun w=>?_⟩;have hw:((aM[i]?).map (dg · (yielded aM tmps))).getD false=true:=by rw[ho];simp[dg,hg]
 have Zd:(kd == .early)=false:=beq_eq_false_iff_ne.2 Ee;have e1:fE P false (GK fn tmps (.inRegion aM (i::rest)::k) kd cs) w=fC P true (jF fn tmps (.inRegion aM (i::rest)::k) .run kd) cs none w:=if_pos hw;rw[e1]
 have e2:cC (jF fn tmps (.inRegion aM (i::rest)::k) .run kd).eval o=fo (Next.comm #[og c v zS] true .send):=by
  unfold cC;rw[hop];simp only[hx,hy];rfl
 have e3:fC P true (jF fn tmps (.inRegion aM (i::rest)::k) .run kd) cs none w=eH P true (jF fn tmps (.inRegion aM (i::rest)::k) .run kd) cs none (cC (jF fn tmps (.inRegion aM (i::rest)::k) .run kd).eval o) w:=by
  unfold fC;have:(jF fn tmps (.inRegion aM (i::rest)::k) .run kd).oper?=some o:=ho;rw[this];rfl
 rw[e3,e2];unfold eH;simp only[if_true,jF,Zd,bF,if_false];rfl
theorem C6{i:Nat}{rest:List Nat}{o:cY}(ho:aM[i]?=some o)(hd:o.dst=none):fG (GK fn tmps (.inRegion aM (i::rest)::k) kd cs) au=GK fn tmps (.inRegion aM rest::k) kd cs:=by
 simp only[fG,GK,G,jF,Frame.finish,ho,hd,gZ]
def xM(P:aK)(f:en)(captured:Array ai):Goroutine:=
 { frame:={ (default:bY) with fn:=P.funcs.size,defers:=[{ target:=.fn (.func f) captured,args:=#[] }],mode:=.panicking [goexitEntry] },callers:=[],status:=.running,dying:=none }
def nj(P:aK):Frame:={ (default:bY) with fn:=P.funcs.size,defers:=[],mode:=.panicking [goexitEntry] }
theorem OC{f:en}{func:Func}{c:h_}(hf:P.funcs[f]?=some func)(hb:func.body=some c)(hn:(func.name == "runtime.NumGoroutine")=false)(captured:Array ai)(w:ak) :
  fE P false (xM P f captured) w=.go (GK f (captured++bz (func.ntmps-captured.size) au) [.code c] .deferred [nj P]) w #[]:=by
 have h1:(invoke (.fn (.func f) captured) #[]).runT P w #[]=(.ok (.enter f captured) w,#[]):=by
  show(fT f (#[]++captured)).runT P w #[]=_;unfold fT;show((Sem.program .pure).bind _).runT P w #[]=_;simp only[Sem.bind,Sem.runT];rw[hf];have h4:func.body.isNone=false:=by rw[hb];rfl
  simp only[hn,h4,bF,if_false,Array.empty_append];rfl
 show mM P false (xM P f captured).frame [] none w=_;unfold mM;dsimp only[xM];unfold callDeferred;simp only[h1];simp only[Bool.false_and,bF,if_false,Frame.enter,hf,dK,Option.getD_some,gZ,hb];rfl
theorem SA{f:en}{func:Func}(hf:P.funcs[f]?=some func)(hr:func.results = #[]):QuitsD P 5 0 (GK f tmps [.inRegion aM []] .deferred [nj P]):=by
 have hd:deafBehind 0 #[]=0:=rfl;refine .inr ⟨rfl,GK f tmps [] .deferred [nj P],#[],sN,fun w=>rfl,?_⟩;refine .inr ⟨rfl,G (jF f tmps [] .returning .deferred) [nj P],#[],sN,fun w=>rfl,?_⟩;refine .inr ⟨rfl,G (nj P) [],#[],sN,fun w=>?_,?_⟩
 .show mM P false (jF f tmps [] .returning .deferred) [nj P] none w=_;unfold mM
  have h1:(results func tmps).runT P w #[]=(.ok (.tuple #[]) w,#[]):=by
   unfold results;rw[hr,qg];rfl
  simp only[jF,hf,h1];rfl
 refine .inr ⟨rfl,{ frame:=nj P,callers:=[],status:=.finished,dying:=none },#[],sN,fun w=>?_,?_⟩
 .show mM P false (nj P) [] none w=_;unfold mM;have h2:P.funcs[P.funcs.size]?=none:=Array.getElem?_eq_none (aJ _);have h3:(default:bY).todo=[]:=rfl;simp[nj,Frame.catches,h2,h3,goexitEntry]
 exact .inl ⟨rfl,rfl⟩
end
end Go.Lag
namespace Go.Proofs.YtffladgmkiimjaaGreatDoor
open Go.Lag
open Go.Conc
noncomputable def w0:Code:=match Tryz.f178.body with|some (.seq (.seq a _) _)=>a|_=>.skip
noncomputable def w1:Code:=match Tryz.f178.body with|some (.seq (.seq _ (.cond _ a _)) _)=>a|_=>.skip
noncomputable def w2:Code:=match Tryz.f178.body with|some (.seq _ a)=>a|_=>.skip
def opsOf:h_->Array cY|.region _ aM _=>aM|_=>#[]
def ZI:Tryz.f178.body=some (.seq (.seq w0 (.cond (.tmp 6) w1 .skip)) w2):=kN
def aeb:w1=.region 1 (opsOf w1) false:=kN
def aea:w2=.region 2 (opsOf w2) false:=kN
def aec:iT aq fw w0=true:=kN
def aa4:eo w0=true:=kN
def abj:xH aq 188=true:=kN
def abh:xH aq 189=true:=kN
def abk:xH aq 108=true:=kN
def Yg:(opsOf w1).size=3:=kN
def Ye:(opsOf w2).size=2:=kN
def Yi:(opsOf w1)[0]?=some ((opsOf w1).getD 0 default)/\((opsOf w1).getD 0 default).op=.load 188 (.tmp 2)/\((opsOf w1).getD 0 default).dst=some 7/\((opsOf w1).getD 0 default).guard=none:=⟨kN,kN,kN,kN⟩
def Yh:(opsOf w1)[1]?=some ((opsOf w1).getD 1 default)/\((opsOf w1).getD 1 default).op=.load 108 (.tmp 1)/\((opsOf w1).getD 1 default).dst=some 8/\((opsOf w1).getD 1 default).guard=none:=⟨kN,kN,kN,kN⟩
def Uv:(opsOf w1)[2]?=some ((opsOf w1).getD 2 default)/\((opsOf w1).getD 2 default).op=.send (.tmp 7) (.tmp 8)/\((opsOf w1).getD 2 default).dst=none/\((opsOf w1).getD 2 default).guard=none:=⟨kN,kN,kN,kN⟩
def Yf:(opsOf w2)[0]?=some ((opsOf w2).getD 0 default)/\((opsOf w2).getD 0 default).op=.load 189 (.tmp 3)/\((opsOf w2).getD 0 default).dst=some 9/\((opsOf w2).getD 0 default).guard=none:=⟨kN,kN,kN,kN⟩
def Uu:(opsOf w2)[1]?=some ((opsOf w2).getD 1 default)/\((opsOf w2).getD 1 default).op=.send (.tmp 9) (.const (.bool true))/\((opsOf w2).getD 1 default).dst=none/\((opsOf w2).getD 1 default).guard=none:=⟨kN,kN,kN,kN⟩
def aa7:Tryz.f178.results = #[]:=kN
def aey:Tryz.f178.ntmps=10:=kN
def aeA:(Tryz.f178.name == "runtime.NumGoroutine")=false:=kN
abbrev ptr(a:dc):Value:=.pointer (some a)
def LG(xa pa fa ta:dc):Array Value:=#[ptr xa,ptr pa,ptr fa,ptr ta]++bz 6 au
section
variable{P:aK}{X:Nat->Prop}{w:ak}{xa pa fa ta:dc}{c0 c1:Nat}{p:ai}{s:Bool}{tmps:Array ai}{O:Nat->Prop}
structure WT(tmps:Array ai)(pa fa ta:dc)(s:Bool):Prop where
 size:tmps.size=10
 p:tmps[1]?=some (ptr pa)
 f:tmps[2]?=some (ptr fa)
 t:tmps[3]?=some (ptr ta)
 s:tmps[6]?=some (.bool s)
theorem bw{i:Nat}{v:ai}(h:tmps[i]?=some v):tmps.getD i au=v:=by
 rw[Array.getD_eq_getD_getElem?,h];rfl
theorem CY(e:P=aq)(hf:P.funcs[(178:Nat)]?=some Tryz.f178)(Ub:X ta.block)(ht:w.cell? ta=some (.chan (some c1)))(hs:tmps.size=10)(h3:tmps[3]?=some (ptr ta)) :
  iq P c0 c1 X p false O (GK 178 tmps [.code w2] .deferred [nj P]) w:=by
 have Ee:CallKind.deferred≠.early:=sN;rw[aea];refine .ctl rfl rfl (vd _ _) rfl rfl ?_;rw[Ye];show iq P c0 c1 X p false O (GK 178 tmps [.inRegion (opsOf w2) [0,1]] .deferred [nj P]) w;refine .one rfl rfl fun w' hr=>?_;have ht':w'.cell? ta=some (.chan (some c1)):=(jo (hr.keep _ (.inl Ub))).trans ht;refine⟨_,_,BH Ee Yf.1 Yf.2.1 Yf.2.2.1 Yf.2.2.2 (by rw[e];exact abh) (a:=ta) (bw h3) ht',Gg Ub _,rfl,rfl,?_⟩;have h9:(tmps.setIfInBounds 9 (.chan (some c1)))[9]?=some (.chan (some c1)):=bg oN;refine .C7 (n:=5) (IZ Ee Uu.1 Uu.2.1 Uu.2.2.2 (c:=c1) (v:=.bool true) (bw h9) rfl) ?_;rw[C6 Uu.1 Uu.2.2.1];exact SA hf aa7
theorem LJ(e:P=aq)(hf:P.funcs[(178:Nat)]?=some Tryz.f178)(hpa:X pa.block)(hfa:X fa.block)(Ub:X ta.block)(hp:w.cell? pa=some p)(hfc:w.cell? fa=some (.chan (some c0)))(ht:w.cell? ta=some (.chan (some c1)))(h:WT tmps pa fa ta s) :
  iq P c0 c1 X p s O (GK 178 tmps [.code (.cond (.tmp 6) w1 .skip),.code w2] .deferred [nj P]) w:=by
 have Ee:CallKind.deferred≠.early:=sN;refine .ctl rfl rfl (uy (x:=s) (bw h.s)) rfl rfl ?_;cases s with
 |false=>
  refine .ctl rfl rfl (fun w=>A0 w) rfl rfl ?_;exact CY e hf Ub ht h.size h.t
 |true=>
  show iq P c0 c1 X p true O (GK 178 tmps [.code w1,.code w2] .deferred [nj P]) w;rw[aeb];refine .ctl rfl rfl (vd _ _) rfl rfl ?_;rw[Yg];show iq P c0 c1 X p true O (GK 178 tmps [.inRegion (opsOf w1) [0,1,2],.code w2] .deferred [nj P]) w;refine .one rfl rfl fun w' hr=>?_;have aju:w'.cell? fa=some (.chan (some c0)):=(jo (hr.keep _ (.inl hfa))).trans hfc;have hp':w'.cell? pa=some p:=(jo (hr.keep _ (.inl hpa))).trans hp;have ht':w'.cell? ta=some (.chan (some c1)):=(jo (hr.keep _ (.inl Ub))).trans ht;refine⟨_,_,BH Ee Yi.1 Yi.2.1 Yi.2.2.1 Yi.2.2.2 (by rw[e];exact abj) (a:=fa) (bw h.f) aju,Gg hfa _,rfl,rfl,?_⟩;refine .one rfl rfl fun w'' hr'=>?_;have aiZ:w''.cell? pa=some p:=(jo (hr'.keep _ (.inl hpa))).trans hp';have aiL:w''.cell? ta=some (.chan (some c1)):=(jo (hr'.keep _ (.inl Ub))).trans ht';have hsz:=h.size;have h1':(tmps.setIfInBounds 7 (.chan (some c0)))[1]?=some (ptr pa):=by rw[aB oN];exact h.p
  refine⟨_,_,BH Ee Yh.1 Yh.2.1 Yh.2.2.1 Yh.2.2.2 (by rw[e];exact abk) (a:=pa) (bw h1') aiZ,Gg hpa _,rfl,rfl,?_⟩
  have h7:((tmps.setIfInBounds 7 (.chan (some c0))).setIfInBounds 8 p)[7]?=some (.chan (some c0)):=by
   rw[aB oN];exact bg oN
  have h8:((tmps.setIfInBounds 7 (.chan (some c0))).setIfInBounds 8 p)[8]?=some p:=bg sP;refine .C8 (IZ Ee Uv.1 Uv.2.1 Uv.2.2.2 (c:=c0) (v:=p) (bw h7) (bw h8)) ?_;rw[C6 Uv.1 Uv.2.2.1];refine .ctl rfl rfl (o6 _) rfl rfl ?_;refine CY (tmps:=(tmps.setIfInBounds 7 (.chan (some c0))).setIfInBounds 8 p) e hf Ub aiL sP ?_;rw[aB oN,aB oN];exact h.t
theorem worker(e:P=aq)(hf:P.funcs[(178:Nat)]?=some Tryz.f178)(hcl:Closed fw X w)(hX:∀b,X b->P.globals.size<=b)(Dy:P.globals.size<=w.heap.size)(hin:P.inits.idxOf? 178=none)
  (yy:X xa.block) (hpa:X pa.block) (hfa:X fa.block) (Ub:X ta.block) (hp:w.cell? pa=some p) (hfc:w.cell? fa=some (.chan (some c0))) (ht:w.cell? ta=some (.chan (some c1)))
  (h0:∀I d,w0.wp P (fun e a W'=>e=.normal/\WT a.tmps pa fa ta s) ⟨LG xa pa fa ta,[]⟩ (dR (shut X w) I d)) :
  iq P c0 c1 X p s (fun _=>False) (xM P 178 #[ptr xa,ptr pa,ptr fa,ptr ta]) w:=by
 have hq:Quiet P:=quiet_of e;have Tg:vQ P fw:=Nr e;refine .ctl rfl rfl (OC hf ZI aeA _) rfl rfl ?_;rw[aey];refine .ctl rfl rfl (j0 _ _) rfl rfl (.ctl rfl rfl (j0 _ _) rfl rfl ?_);have hwr:WR fw P.globals.size (fun b=>b<w.heap.size) (zg X) (shut X w) w:=QI hcl hX;have Ud:∀a:dc,X a.block->VR fw (zg X) (ptr a) (ptr a):=fun a ha=>.ptr ⟨wW ha,rfl,rfl⟩
 have Ug:jg fw (zg X) (LG xa pa fa ta) (LG xa pa fa ta):=by
  refine jg.append ?_ (.replicate uO 6);exact(((jg.one (Ud xa yy)).push (Ud pa hpa)).push (Ud fa hfa)).push (Ud ta Ub)
 have aak:=ET (main:=false) (B:=fun b=>b<w.heap.size) hq Tg (by rw[xA];exact Dy) (fn:=178) (kd:=.deferred) sN hin (c:=w0) (by rw[e];exact aec) aa4 Ug hwr Dy QJ (Q:=fun a _=>WT a.tmps pa fa ta s) (fun _ _ _ _ h=>h) h0 (S:=X) (C0 hcl) [.code (.cond (.tmp 6) w1 .skip),.code w2] [nj P];rw[I3 hcl] at aak;have jx:=aak.keep w fun c hc=>⟨hcl.lt hc,id,rfl⟩
 refine iq.Ki P c0 c1 jx ?_;rintro O g w' ⟨⟨ov,lF,lg,ρ1,rfl,V_,hQ,hkn⟩,hk⟩
 have same:∀ {i:Nat} {a:dc},X a.block->ov[i]?=some (ptr a)->lF[i]?=some (ptr a):=by
  intro i a ha hi;obtain⟨y,hy,hv⟩:=V_.get hi;cases hv with
  |@ptr _ a' Hk=>
   have h1:=hkn.le _ _ (wW ha);have h2:=Hk.block;rw[h1] at h2;have h3:=aT h2;have h4:=Hk.off;have h5:=Hk.spot;obtain⟨b1,o1,s1⟩:=a;obtain⟨b2,o2,s2⟩:=a';dsimp only at h3 h4 h5;subst h3;subst h4;subst h5;exact hy
 have hs6:lF[6]?=some (.bool s):=by
  obtain⟨y,hy,hv⟩:=V_.get hQ.s;cases hv;exact hy
 have hc:∀ {a:dc},X a.block->w'.cell? a=w.cell? a:=fun ha=>jo (hk _ ha).2.2;exact LJ e hf hpa hfa Ub ((hc hpa).trans hp) ((hc hfa).trans hfc) ((hc Ub).trans ht) ⟨V_.size▸hQ.size,same hpa hQ.p,same hfa hQ.f,same Ub hQ.t,hs6⟩
end
open Go.RowKit
def ad9(b:BB)(hb:b.Ok)(bn aL az v:ai)(l:List eV)(hl:∀a∈l,a.Ok)(p:Nat)(hp:p<512)(xb pb fb tb:Nat)(w:ak)(hv:Reads w v l.length (rowOf l))
  (hx:∀i u,(b.open bn aL az v)[i]?=some u->w.cell? ⟨xb,i,none⟩=some u) (hpc:w.cell? ⟨pb,0,none⟩=some (ah af p)) :
  w0.wp aq (fun e a W'=>e=.normal/\WT a.tmps ⟨pb,0,none⟩ ⟨fb,0,none⟩ ⟨tb,0,none⟩ (b.sure l p)) ⟨LG ⟨xb,0,none⟩ ⟨pb,0,none⟩ ⟨fb,0,none⟩ ⟨tb,0,none⟩,[]⟩ w:=by
 have x0:=hx 0 _ rfl;have x1:=hx 1 _ rfl;have x2:=hx 2 _ rfl;have x3:=hx 3 _ rfl;have x4:=hx 4 _ rfl;have x5:=hx 5 _ rfl;have x6:=hx 6 _ rfl;have x7:=hx 7 _ rfl;have x8:=hx 8 _ rfl;have x9:=hx 9 _ rfl;have qY:=hx 10 _ rfl;have qX:=hx 11 _ rfl;have r8:=hx 12 _ rfl;have rT:=hx 13 _ rfl;have rW:=hx 14 _ rfl;have x15:=hx 15 _ rfl;clear hx;have hS:=yT b hb bn aL az v l hl p hp w hv;unfold w0 LG;simp only[Tryz.f178]
 go_wp2_with (go_at_call 105;refine hS.mono ?_;rintro e w2 ⟨rfl,hb2⟩)
 exact⟨rfl,rfl,rfl,rfl,rfl⟩
def sL:h_->h_|.seq a _=>a|_=>.skip
def sR:h_->h_|.seq _ b=>b|_=>.skip
def bC:h_->h_|.block _ c=>c|_=>.skip
def lC:h_->h_|.loop c=>c|_=>.skip
def cT:h_->h_|.cond _ a _=>a|_=>.skip
def cE:h_->h_|.cond _ _ b=>b|_=>.skip
noncomputable def rX:Code:=match Tryz.f159.body with|some c=>c|_=>.skip
noncomputable def gR0:Code:=sL rX
noncomputable def gR1:Code:=sL (sR rX)
noncomputable def gR2:Code:=sL (sR (sR rX))
noncomputable def gR3:Code:=sL (sR (sR (sR rX)))
noncomputable def gM:Code:=sL (sR (sR (sR (sR rX))))
noncomputable def gN:Code:=sR (sR (sR (sR (sR rX))))
noncomputable def gR4:Code:=sL gM
noncomputable def KT:Code:=lC (bC (sR gM))
noncomputable def gR5:Code:=sL KT
noncomputable def PZ:Code:=bC (sL (sR (sR KT)))
noncomputable def gR6:Code:=sL PZ
noncomputable def gR7:Code:=sL (sR PZ)
noncomputable def gR8:Code:=sL (sL (sR (sR PZ)))
noncomputable def gR9:Code:=sL (sR (sR (sR PZ)))
noncomputable def vX:Code:=sR (sR (sR (sR PZ)))
noncomputable def Nn:Code:=sR (sR (sR KT))
noncomputable def Ia:Code:=sL gN
noncomputable def Ot:Code:=lC (bC (sL (sR gN)))
noncomputable def Tz:Code:=sL (sL Ot)
noncomputable def Wu:Code:=bC (sR Ot)
noncomputable def Cj:Code:=sL Wu
noncomputable def od:Code:=sL (sR Wu)
noncomputable def Ws:Code:=bC (sR (sR Wu))
noncomputable def Ci:Code:=cT Ws
noncomputable def Ty:Code:=cT (cE Ws)
noncomputable def xZ:Code:=sR (sR gN)
def ZJ:Tryz.f159.body=some (.seq gR0 (.seq gR1 (.seq gR2 (.seq gR3 (.seq (.seq gR4 (.block 0 (.loop KT))) (.seq Ia (.seq (.block 2 (.loop Ot)) xZ))))))):=kQ
def acM:KT=.seq gR5 (.seq (.cond (.tmp 19) .skip (.exit 0)) (.seq (.block 1 PZ) Nn)):=kQ
def acP:PZ=.seq gR6 (.seq gR7 (.seq (.seq gR8 (.cond (.tmp 50) (.exit 1) .skip)) (.seq gR9 vX))):=kQ
def acL:Ot=.seq (.seq Tz (.cond (.tmp 56) .skip (.exit 2))) (.block 3 Wu):=kQ
def acO:Wu=.seq Cj (.seq od (.block 4 Ws)):=kQ
def acN:Ws=.cond (.tmp 61) Ci (.cond (.tmp 62) Ty .skip):=kQ
def Zs:vX=.region 10 (opsOf vX) false:=kQ
def Zr:od=.region 16 (opsOf od) false:=kQ
def aip:[gR5,gR6,gR7,gR8,gR9,Nn,Ia,Tz,Cj,Ci,Ty].all (fun c=>iT aq fw c&&eo c)=true:=kQ
def agK(a:Array ai):a=((aP a.size).map fun i=>a.getD i au).toArray:=by
 apply Array.ext
 .simp
 intro i h1 h2;simp[Array.getD,h1]
def vO(a:Array ai)(h:a.size=71):a=((aP 71).map fun i=>a.getD i au).toArray:=by
 have:=agK a;rw[h] at this;exact this
structure GT(xb fb tb:Nat)(sn:Nat)(tmps:Array ai)(many m:Int)(t8:ai):Prop where
 size:tmps.size=71
 t1:tmps[1]?=some (ptr ⟨xb,0,none⟩)
 t3:tmps[3]?=some (ah af sn)
 t4:tmps[4]?=some (ptr ⟨fb,0,none⟩)
 t5:tmps[5]?=some (ptr ⟨tb,0,none⟩)
 t6:tmps[6]?=some (ah af many)
 t18:tmps[18]?=some (ah af m)
 t8:tmps[8]?=some t8
section
variable{xb fb tb sn:Nat}{tmps:Array ai}{many m:Int}{t8:ai}{lw:ak}
theorem pR5(h:GT xb fb tb sn tmps many m t8):gR5.wp aq (fun e a W'=>e=.normal/\GT xb fb tb sn a.tmps many m t8/\a.tmps[19]?=some (.bool (decide (m<512)))/\W'=lw) ⟨tmps,[]⟩ lw:=by
 have e1:=bw h.t1;have e3:=bw h.t3;have e4:=bw h.t4;have e5:=bw h.t5;have e6:=bw h.t6;have Hl:=bw h.t18;have e8:=bw h.t8;rw[vO tmps h.size];simp only[aP,cJ,cV,gw,e1,e3,e4,e5,e6,Hl,e8];clear e1 e3 e4 e5 e6 Hl e8;simp only[gR5,KT,PZ,gM,gN,rX,lx,sL,sR,bC,lC];go_wp2;exact⟨rfl,rfl,rfl,rfl,rfl,rfl,rfl,rfl⟩
theorem pR6(h:GT xb fb tb sn tmps many m t8):gR6.wp aq (fun e a W'=>e=.normal/\GT xb fb tb sn a.tmps many m t8/\a.tmps[7]?=some (ah af m)/\W'=lw) ⟨tmps,[]⟩ lw:=by
 have e1:=bw h.t1;have e3:=bw h.t3;have e4:=bw h.t4;have e5:=bw h.t5;have e6:=bw h.t6;have Hl:=bw h.t18;have e8:=bw h.t8;rw[vO tmps h.size];simp only[aP,cJ,cV,gw,e1,e3,e4,e5,e6,Hl,e8];clear e1 e3 e4 e5 e6 Hl e8;simp only[gR6,KT,PZ,gM,gN,rX,lx,sL,sR,bC,lC];go_wp2;exact⟨rfl,rfl,rfl,rfl,rfl,rfl,rfl,rfl⟩
def Q7(xb fb tb sn:Nat)(many:Int)(m:Nat)(lw:ak)(a:Act)(W':ak):Prop:=
 GT xb fb tb sn a.tmps many m (ptr ⟨lw.heap.size,0,none⟩)/\a.tmps[7]?=some (ah af m)/\W'.heap[lw.heap.size]?=some (.cells #[ah af ((sn ||| m:Nat):Int)] 108 (0,0))/\Bw lw W'
theorem pR7{m:Nat}(hs:sn<512)(hm:m<512)(h:GT xb fb tb sn tmps many m t8)(h7:tmps[7]?=some (ah af m)):gR7.wp aq (fun e a W'=>e=.normal/\Q7 xb fb tb sn many m lw a W') ⟨tmps,[]⟩ lw:=by
 have h64:=aev sn m oM oM;have e1:=bw h.t1;have e3:=bw h.t3;have e4:=bw h.t4;have e5:=bw h.t5;have e6:=bw h.t6;have Hl:=bw h.t18;have e8:=bw h.t8;have e7:=bw h7;rw[vO tmps h.size];simp only[aP,cJ,cV,gw,e1,e3,e4,e5,e6,Hl,e8,e7];clear e1 e3 e4 e5 e6 Hl e8 e7;simp only[gR7,KT,PZ,gM,gN,rX,lx,sL,sR,bC,lC];go_wp2;exact⟨⟨rfl,rfl,rfl,rfl,rfl,rfl,rfl,rfl⟩,rfl,World.alloc_heap_new _ _,dF⟩
theorem pR9(hm:0<=many/\many<=1000)(h:GT xb fb tb sn tmps many m t8):gR9.wp aq (fun e a W'=>e=.normal/\GT xb fb tb sn a.tmps (many+1) m t8/\W'=lw) ⟨tmps,[]⟩ lw:=by
 have e1:=bw h.t1;have e3:=bw h.t3;have e4:=bw h.t4;have e5:=bw h.t5;have e6:=bw h.t6;have Hl:=bw h.t18;have e8:=bw h.t8;rw[vO tmps h.size];simp only[aP,cJ,cV,gw,e1,e3,e4,e5,e6,Hl,e8];clear e1 e3 e4 e5 e6 Hl e8;simp only[gR9,KT,PZ,gM,gN,rX,lx,sL,sR,bC,lC];go_wp2;exact⟨rfl,rfl,rfl,rfl,rfl,rfl,rfl,rfl⟩
theorem ail(hm:0<=m/\m<=1000)(h:GT xb fb tb sn tmps many m t8):Nn.wp aq (fun e a W'=>e=.normal/\GT xb fb tb sn a.tmps many (m+1) t8/\W'=lw) ⟨tmps,[]⟩ lw:=by
 have e1:=bw h.t1;have e3:=bw h.t3;have e4:=bw h.t4;have e5:=bw h.t5;have e6:=bw h.t6;have Hl:=bw h.t18;have e8:=bw h.t8;rw[vO tmps h.size];simp only[aP,cJ,cV,gw,e1,e3,e4,e5,e6,Hl,e8];clear e1 e3 e4 e5 e6 Hl e8;simp only[Nn,KT,PZ,gM,gN,rX,lx,sL,sR,bC,lC];go_wp2;exact⟨rfl,rfl,rfl,rfl,rfl,rfl,rfl,rfl⟩
structure GH(fb tb:Nat)(tmps:Array ai)(many:Int)(v:ai):Prop where
 size:tmps.size=71
 t4:tmps[4]?=some (ptr ⟨fb,0,none⟩)
 t5:tmps[5]?=some (ptr ⟨tb,0,none⟩)
 t6:tmps[6]?=some (ah af many)
 t9:tmps[9]?=some v
theorem aik(h:GT xb fb tb sn tmps many m t8):Ia.wp aq (fun e a W'=>e=.normal/\GH fb tb a.tmps many (.slice none 0 0)/\W'=lw) ⟨tmps,[]⟩ lw:=by
 have e1:=bw h.t1;have e3:=bw h.t3;have e4:=bw h.t4;have e5:=bw h.t5;have e6:=bw h.t6;have Hl:=bw h.t18;have e8:=bw h.t8;rw[vO tmps h.size];simp only[aP,cJ,cV,gw,e1,e3,e4,e5,e6,Hl,e8];clear e1 e3 e4 e5 e6 Hl e8;simp only[Ia,KT,PZ,gM,gN,rX,lx,sL,sR,bC,lC];go_wp2;exact⟨rfl,rfl,rfl,rfl,rfl⟩
theorem aij{v:ai}(h:GH fb tb tmps many v):Tz.wp aq (fun e a W'=>e=.normal/\GH fb tb a.tmps many v/\a.tmps[56]?=some (.bool (decide (0<many)))/\W'=lw) ⟨tmps,[]⟩ lw:=by
 have e4:=bw h.t4;have e5:=bw h.t5;have e6:=bw h.t6;have e9:=bw h.t9;rw[vO tmps h.size];simp only[aP,cJ,cV,gw,e4,e5,e6,e9];clear e4 e5 e6 e9;simp only[Tz,Ot,Wu,Ws,gN,rX,lx,sL,sR,bC,lC,cT,cE];go_wp2;exact⟨rfl,rfl,rfl,rfl,rfl⟩
theorem abe{v x y:ai}(h:GH fb tb tmps many v)(hf:lw.cell? ⟨fb,0,none⟩=some x)(ht:lw.cell? ⟨tb,0,none⟩=some y):Cj.wp aq (fun e a W'=>e=.normal/\GH fb tb a.tmps many v/\a.tmps[57]?=some x/\a.tmps[58]?=some y/\W'=lw) ⟨tmps,[]⟩ lw:=by
 have e4:=bw h.t4;have e5:=bw h.t5;have e6:=bw h.t6;have e9:=bw h.t9;rw[vO tmps h.size];simp only[aP,cJ,cV,gw,e4,e5,e6,e9];clear e4 e5 e6 e9;simp only[Cj,Ot,Wu,Ws,gN,rX,lx,sL,sR,bC,lC,cT,cE];go_wp2;exact⟨rfl,rfl,rfl,rfl,rfl⟩
theorem aii{v:ai}(hm:0<=many/\many<=1000)(h:GH fb tb tmps many v):Ty.wp aq (fun e a W'=>e=.normal/\GH fb tb a.tmps (many-1) v/\W'=lw) ⟨tmps,[]⟩ lw:=by
 have e4:=bw h.t4;have e5:=bw h.t5;have e6:=bw h.t6;have e9:=bw h.t9;rw[vO tmps h.size];simp only[aP,cJ,cV,gw,e4,e5,e6,e9];clear e4 e5 e6 e9;simp only[Ty,Ot,Wu,Ws,gN,rX,lx,sL,sR,bC,lC,cT,cE];go_wp2;exact⟨rfl,rfl,rfl,rfl,rfl⟩
end
noncomputable def aio:Array Oper:=opsOf gR8
def acJ:gR8=.region 8 aio true:=kQ
def zW(b:BB)(lD:Nat)(sn m:Nat):Bool:=decide (m &&& (2 ^ lD-1)≠0)||decide (2 ^ (b.minutes.toNat+1)<=m)||decide (b.ey<((upTo (sn ||| m) 8).length:Int))
def _root_.Go.Lag.iw.some{n:Nat}{a:Act}{l:List (Tmp × ai)}(h:iw n a l)(k:Nat){t:Tmp}{v:ai}(hk:l[k]?=Option.some (t,v))(ht:t<n):a.tmps[t]?=Option.some v:=by
 have h1:a.tmps.getD t au=v:=h.g k hk;have h2:t<a.tmps.size:=by rw[h.size];exact ht
 simp[Array.getD,h2] at h1;rw[Array.getElem?_eq_getElem h2,h1]
def QK(y:Nat)(hy:y<=63)(t:aV)(w:ak):(Go.binOp .shl t (ah af 1) (ah af (y:Int))).run aq w=.ok (ah af (IntKind.i64.wrap (2 ^ y))) w:=by
 have h:¬(y:Int)<0:=oM;have e:min (y:Int).toNat IntKind.i64.bits=y:=by show min (y:Int).toNat 64=y;omega
 show(Op.shift .shl af 1 af (y:Int)).run aq w=_;unfold Op.shift;rw[if_neg h,e];show Result.ok (ax af (IntKind.i64.wrap (1*2 ^ y))) w=_;rw[Int.one_mul]
section
variable{xb fb tb sn:Nat}{tmps:Array ai}{many:Int}{m:Nat}{lw:ak}
def Q8(xb fb tb sn pb:Nat)(many:Int)(m:Nat)(r:Bool)(lw:ak)(a:Act)(W':ak):Prop:=
 GT xb fb tb sn a.tmps many m (ptr ⟨pb,0,none⟩)/\a.tmps[50]?=some (.bool r)/\Bw lw W'
theorem pR8{b:BB}{bn aL az:ai}{pb:Nat}(hb:b.Ok)(Tb:sn<512)(hm:m<512)(h:GT xb fb tb sn tmps many m (ptr ⟨pb,0,none⟩))(h7:tmps[7]?=some (ah af m))
  (hx:∀i u,(b.cells bn aL az)[i]?=some u->lw.cell? ⟨xb,i,none⟩=some u) (hp:lw.cell? ⟨pb,0,none⟩=some (ah af ((sn ||| m:Nat):Int))) (hlt:xb<lw.heap.size/\pb<lw.heap.size)
  {lD:Nat} (Zn:1<=lD/\lD<=9) (hB:∀w1,Bw lw w1->Calls aq 155 #[.agg (b.cells bn aL az)] w1 (Rt w1 (ah af lD))) :
  gR8.wp aq (fun e a W'=>e=.normal/\Q8 xb fb tb sn pb many m (zW b lD sn m) lw a W') ⟨tmps,[]⟩ lw:=by
 have hp9:sn ||| m<512:=Nat.or_lt_two_pow (n:=9) Tb hm
 have AB:=hb.minutes;have ajB:=hb.ey;generalize hpp:sn ||| m=p at *
 obtain⟨Y,hY⟩:∃Y:Int,(2:Int) ^ lD=Y:=⟨_,rfl⟩
 have hYn:Y=((2 ^ lD:Nat):Int):=by rw[<-hY];simp
 have hYb:(2:Nat) ^ lD<=512/\1<=(2:Nat) ^ lD:=⟨Nat.pow_le_pow_right (j:=9) oM oM,Nat.one_le_two_pow⟩
 generalize hK2:(2:Nat) ^ lD=K2 at hYn hYb;have w1e:IntKind.i64.wrap (2 ^ lD)=Y:=by rw[hY,hYn];exact fO _ (Int.natCast_nonneg _) oM
 have w2:IntKind.i64.wrap (Y-1)=Y-1:=by rw[hYn];exact fO _ oM oM
 have a1:bits .and af (m:Int) (Y-1)=((m &&& (K2-1):Nat):Int):=by
  have e:Y-1=((K2-1:Nat):Int):=by rw[hYn];omega
  rw[e];exact aaT m (K2-1) oM oM
 obtain⟨mn,hmn⟩:∃mn:Nat,b.minutes=mn:=⟨b.minutes.toNat,oM⟩
 have hZb:(2:Nat) ^ (mn+1)<=512/\1<=(2:Nat) ^ (mn+1):=⟨Nat.pow_le_pow_right (j:=9) oM oM,Nat.one_le_two_pow⟩
 have w3:IntKind.i64.wrap (b.minutes+1)=((mn+1:Nat):Int):=by rw[hmn];exact fO _ oM oM
 obtain⟨Z,hZ⟩:∃Z:Int,(2:Int) ^ (mn+1)=Z:=⟨_,rfl⟩
 have hZn:Z=((2 ^ (mn+1):Nat):Int):=by rw[<-hZ];simp
 have hSK:zW b lD sn m=(decide (m &&& (K2-1)≠0)||decide (2 ^ (mn+1)<=m)||decide (b.ey<((upTo p 8).length:Int))):=by unfold zW;rw[hpp,hK2,hmn];rfl
 generalize (2:Nat) ^ (mn+1)=Z2 at *;have w4:IntKind.i64.wrap (2 ^ (mn+1))=Z:=by rw[hZ,hZn];exact fO _ (Int.natCast_nonneg _) oM
 have hF:iw 71 ⟨tmps,[]⟩ [(1,ptr ⟨xb,0,none⟩),(3,ah af sn),(4,ptr ⟨fb,0,none⟩),(5,ptr ⟨tb,0,none⟩),(6,ah af many),(18,ah af m),(8,ptr ⟨pb,0,none⟩),(7,ah af m)]:=
  ⟨h.size,rfl,bw h.t1,bw h.t3,bw h.t4,bw h.t5,bw h.t6,bw h.t18,bw h.t8,bw h7,trivial⟩
 have cx:∀w1,Bw lw w1->∀i u,(b.cells bn aL az)[i]?=some u->w1.cell? ⟨xb,i,none⟩=some u:=fun w1 hS i u hi=>(hS.cell (p:=⟨xb,i,none⟩) hlt.1).trans (hx i u hi);rw[acJ]
 refine Qf kQ ⟨[],[(2,.agg (b.cells bn aL az)),(3,ah af lD),(4,ah af Y),(5,ah af (Y-1)),(6,ah af ((m &&& (K2-1):Nat):Int)),(13,ah af b.minutes),(14,ah af ((mn+1:Nat):Int)),(15,ah af Z),(19,ah af (p:Int)),(20,ah af ((upTo p 8).length:Int)),(24,ah af b.ey)],[],[]⟩
  [(50,.bool (((!(((m &&& (K2-1):Nat):Int)==0))||decide ((m:Int)≥Z))||decide (((upTo p 8).length:Int)>b.ey)))] hF trivial
  ⟨fun w1 hS _=>gs (wy 119 (ptr ⟨xb,0,none⟩)) (by
    have c:=cx w1 hS;have z0:=c 0 _ rfl;have z1:=c 1 _ rfl;have z2:=c 2 _ rfl;have z3:=c 3 _ rfl;have z4:=c 4 _ rfl;have z5:=c 5 _ rfl;have z6:=c 6 _ rfl;have z7:=c 7 _ rfl;have z8:=c 8 _ rfl;have z9:=c 9 _ rfl;have z10:=c 10 _ rfl;have z11:=c 11 _ rfl;have z12:=c 12 _ rfl;have z13:=c 13 _ rfl;have z14:=c 14 _ rfl
    go_simp),
   fun w1 hS _=>gc (hB w1 hS),fun w1 _ _=>gs _ ((QK lD oM 108 w1).trans (by rw[w1e])),fun _ _ _=>ge (congrArg (ax af) w2),fun w1 _ _=>gs (Go.binOp .and 108 (ah af m) (ah af (Y-1))) (by rw[hYn] at a1 ⊢;go_simp),
   fun w1 hS _=>gl (cx w1 hS 3 _ rfl),fun _ _ _=>ge (congrArg (ax af) w3),fun w1 _ _=>gs _ ((QK (mn+1) oM 3 w1).trans (by rw[w4])),fun w1 hS _=>gl ((hS.cell (p:=⟨pb,0,none⟩) hlt.2).trans hp),fun w1 hS _=>gc (uz p hp9 w1),fun w1 hS _=>gl (cx w1 hS 6 _ rfl),trivial⟩ ?_
 intro a w ho hF;refine⟨rfl,⟨hF.size,hF.some 1 rfl dC,hF.some 2 rfl dC,hF.some 3 rfl dC,hF.some 4 rfl dC,hF.some 5 rfl dC,hF.some 6 rfl dC,hF.some 7 rfl dC⟩,?_,ho⟩;rw[hF.some 0 rfl dC,hSK];rw[hZn]
 have e1:(!(((m &&& (K2-1):Nat):Int)==0))=decide (m &&& (K2-1)≠0):=by
  rw[Bool.eq_iff_iff];simp
 have e2:decide ((m:Int)≥((Z2:Nat):Int))=decide (Z2<=m):=sM;rw[e1,e2]
theorem YW:(Tryz.prog.info? 108).map (fun i=>(i.zero,i.size,i.bytes))=some (some (ah af 0),1,8):=kQ
def Q18(fb tb:Nat)(many:Int)(out:List Nat)(B:Nat)(lw:ak)(a:Act)(W':ak):Prop:=
 ∃v,GH fb tb a.tmps many v/\W'.ownsRow B 108 1 v out.length (out.map fun(p:Nat)=>ax af (p:Int))/\Below B lw W'
theorem abd{v:ai}{x y z:ai}{out:List Nat}{p B:Nat}(ho:out.length<=1000)(h:GH fb tb tmps many v)(h59:tmps[59]?=some (cR #[x,y,ah af p,z]))(hown:lw.ownsRow B 108 1 v out.length (out.map fun(p:Nat)=>ax af (p:Int)))(hB:B<=lw.heap.size) :
  Ci.wp aq (fun e a W'=>e=.normal/\Q18 fb tb many (out++[p]) B lw a W') ⟨tmps,[]⟩ lw:=by
 obtain⟨i0,hi,hz0,hz1,hz2⟩:=info_parts YW;have e4:=bw h.t4;have e5:=bw h.t5;have e6:=bw h.t6;have e9:=bw h.t9;have e59:=bw h59;rw[vO tmps h.size];simp only[aP,cJ,cV,gw,e4,e5,e6,e9,e59];clear e4 e5 e6 e9 e59;simp only[Ci,Ot,Wu,Ws,gN,rX,lx,sL,sR,bC,lC,cT,cE]
 go_wp2_with (at_builtin;refine wpList_append_own _ rfl _ _ 172 rfl B 108 i0 (ah af 0) 1 8 Tryz.underlying172 hi hz0 hz1 hz2 rfl dC _ _ _ rfl (hown.alloc _) ⟨lw.heap.size,0,none⟩ 1 1 [ah af p] rfl rfl (aag (NP _ _ _)) (Ve rfl) (by unfold maxLen;omega) oM sO ?_)
 intro v' w1 hown' hgrow _;have hb1:Below B lw w1:=((Below.refl _ _).alloc hB _).grown hgrow sO (fun j hj=>(hown.lt j hj).1);clear hgrow;go_wp2;exact⟨v',⟨rfl,rfl,rfl,rfl,rfl⟩,by simpa using hown',hb1⟩
end
end Go.Proofs.YtffladgmkiimjaaGreatDoor
namespace Go.Lag
open Go.Conc
section
variable{P:aK}{c0 c1:Nat}{z0 z1:ai}{Fin:List ai->List ai->(Nat->Prop)->(Nat->Prop)->aC->ak->Prop}{f m:Nat}{acc out:List ai}{S O:Nat->Prop}{g:aC}{w:ak}
theorem gX.wide{w0:ak}(h:gX P c0 c1 z0 z1 Fin f m acc out S O g w):∀(E:Nat->Prop),(∀c,E c->c<w.heap.size/\¬O c/\w.heap[c]?=w0.heap[c]?)->
  gX P c0 c1 z0 z1 (fun acc out _ O g w'=>∃S,Fin acc out S O g w'/\∀c,E c->¬O c/\w'.heap[c]?=w0.heap[c]?) f m acc out (fun c=>S c\/E c) O g w:=by
 have nar:∀ {S O E:Nat->Prop} {w w1:ak},ja (fun c=>(S c\/E c)\/O c) w w1->ja (fun c=>S c\/O c) w w1:=fun hr=>⟨hr.grow,fun c hc=>hr.keep c (hc.imp .inl id)⟩
 induction h with
 |fin hs h=>
  intro E hE;exact .fin hs fun w1 hr=>⟨_,h w1 (nar hr),fun c hc=>⟨(hE c hc).2.1,(hr.keep c (.inl (.inr hc))).trans (hE c hc).2.2⟩⟩
 |@step f m acc out S O g w a b c d ih=>
  intro E hE;refine .step a b (fun w1 hr=>?_) fun w1 hr g2 w2 es he=>?_
  .obtain⟨g2,w2,es,e,hg,h1,h2⟩:=c w1 (nar hr);exact⟨g2,w2,es,e,⟨hg.grow,hg.keep,hg.tape,hg.drawn,hg.os,hg.out,fun x hx=>(hg.evs x hx).mono (fun c hc=>hc.imp .inl id) fun c hc=>hc⟩,h1,h2⟩
  refine ih w1 (nar hr) g2 w2 es he E fun x hx=>?_;obtain⟨h1,h2,h3⟩:=hE x hx;obtain⟨g3,w3,es3,e3,hg,_,_⟩:=c w1 (nar hr);rw[he] at e3;injection e3 with e4 e5 e6
  subst e5;have hlt:x<w1.heap.size:=bA h1 hr.grow;exact⟨bA hlt hg.grow,fun ho=>ho.elim h2 fun hn=>by omega,by rw[hg.keep x hlt h2,hr.keep x (.inl (.inr hx))];exact h3⟩
 |spawn h1 h2 h2' h3 h4 h5 h6 _ ih=>
  intro E hE
  exact .spawn h1 h2 h2' (fun c hc=>(h3 c hc).imp .inl id) h4 (fun c hc=>hc.elim (fun hc=>(h5 c hc).imp .inl id) fun hc=>.inl (.inr hc)) (fun c hc=>⟨(h6 c hc).1,(h6 c hc).2.1,fun h=>h.elim (h6 c hc).2.2 fun he=>(hE c he).2.1 (h6 c hc).1⟩)
   (ih E fun c hc=>⟨(hE c hc).1,fun ho=>(hE c hc).2.1 (h6 c ho).1,(hE c hc).2.2⟩)
 |select h1 _ _ ih1 ih2=>
  intro E hE;exact .select h1 (fun v f' e hv=>ih1 v f' e hv E hE) fun hf=>ih2 hf E hE
structure MS(P:aK)(F:Nat->Bool)(B S O:Nat->Prop)(tmps bB:Array ai)(lw w:ak)(U:Rn):Prop where
 av:jg F U tmps bB
 wr:WR F P.globals.size B U lw w
 w8:P.globals.size<=w.heap.size
 MI:P.globals.size<=lw.heap.size
 own:O=U.owns B
 shared:∀c,S c↔∃b,B b/\U b=some c
 ok:dL lw
variable{F:Nat->Bool}{B:Nat->Prop}{tmps bB:Array ai}{lw:ak}{U:Rn}
theorem MS.rely(h:MS P F B S O tmps bB lw w U){w2:ak}(hr:ja (fun c=>S c\/O c) w w2):MS P F B S O tmps bB lw w2 U:=
 ⟨h.av,h.wr.rely (by
  have e:(fun c=>S c\/O c)=fun c=>(∃b,B b/\U b=some c)\/U.owns B c:=by funext c;rw[h.shared c,h.own]
  rwa [e] at hr),aG h.w8 hr.grow,h.MI,h.own,h.shared,h.ok⟩
theorem MS.set(h:MS P F B S O tmps bB lw w U){v v':ai}(hv:VR F U v v')(i:Nat):MS P F B S O (tmps.setIfInBounds i v) (bB.setIfInBounds i v') lw w U:=
 ⟨h.av.set hv i,h.wr,h.w8,h.MI,h.own,h.shared,h.ok⟩
theorem MS.get(h:MS P F B S O tmps bB lw w U){i:Nat}{v:ai}(hv:tmps[i]?=some v):∃v',bB[i]?=some v'/\VR F U v v':=h.av.get hv
def pO(lw:ak)(b:Nat)(cs:Array ai)(e:aV)(n:Nat):World:={ lw with heap:=lw.heap.setIfInBounds b (.cells cs e (0,max cs.size n)) }
theorem yE{b:Nat}{cs:Array ai}{e:aV}{n:Nat}:(pO lw b cs e n).heap.size=lw.heap.size:=by simp[pO]
theorem qH{b:Nat}{cs:Array ai}{e:aV}{z:Nat × Nat}(h:lw.heap[b]?=some (.cells cs e z)){x:Nat}:(pO lw b cs e z.2).heap[x]?=if x=b then some (.cells cs e (0,max cs.size z.2)) else lw.heap[x]?:=by
 unfold pO
 by_cases hx:x=b
 .subst hx;rw[if_pos rfl];exact bg (eY h)
 rw[if_neg hx];exact aB (CP hx)
theorem WR.freeze{G:Nat}(h:WR F G B U lw w){b c:Nat}(hb:U b=some c){cs:Array ai}{e:aV}{z:Nat × Nat}(ho:lw.heap[b]?=some (.cells cs e z)):WR F G (fun x=>B x\/x=b) U (pO lw b cs e z.2) w:=by
 refine⟨h.inj,h.low,fun x hx=>?_,fun x y hx=>?_,fun x o hx=>?_⟩
 .rw[yE];exact hx.elim (h.base x) fun e=>e▸eY ho
 .rw[qH ho];obtain⟨o,o',h1,h2,h3,h4⟩:=h.at_ x y hx
  by_cases hxb:x=b
  .subst hxb;rw[if_pos rfl];rw[ho] at h1;cases h1;refine⟨_,o',rfl,h2,?_,fun _=>⟨_,_,_,rfl,oN⟩⟩;cases h3 with
   |cells ha hz=>exact .cells ha fun i h5 h6=>⟨fF _,by have:=(hz i h5 h6).2;simp only;omega⟩
  rw[if_neg hxb];exact⟨o,o',h1,h2,h3,fun hB=>h4 (hB.elim id fun e=>absurd e hxb)⟩
 rw[qH ho] at hx;split at hx
 .cases hx;rfl
 exact h.Kj _ _ hx
theorem Ns{b:Nat}{cs:Array ai}{e:aV}{z:Nat × Nat}(ho:lw.heap[b]?=some (.cells cs e z))(h:dL lw):dL (pO lw b cs e z.2):=by
 intro x o hx;rw[qH ho] at hx;split at hx
 .cases hx;exact .inl rfl
 exact h x o hx
theorem MS.freeze(h:MS P F B S O tmps bB lw w U){b c:Nat}(hb:U b=some c)(hB:¬B b){cs:Array ai}{e:aV}{z:Nat × Nat}(ho:lw.heap[b]?=some (.cells cs e z)) :
  MS P F (fun x=>B x\/x=b) (fun x=>S x\/x=c) (fun x=>O x/\x≠c) tmps bB (pO lw b cs e z.2) w U:=by
 refine⟨h.av,h.wr.freeze hb ho,h.w8,by rw[yE];exact h.MI,?_,fun x=>?_,Ns ho h.ok⟩
 .funext x
  rw[h.own];refine propext ⟨fun⟨⟨y,h1,h2⟩,h3⟩=>⟨y,fun h4=>h4.elim h1 fun e=>h3 ?_,h2⟩,fun⟨y,h1,h2⟩=>⟨⟨y,fun hy=>h1 (.inl hy),h2⟩,fun e=>h1 (.inr ?_)⟩⟩
  .subst e;rw[hb] at h2;exact(aT h2).symm
  subst e;exact h.wr.inj _ _ _ h2 hb
 constructor
 .rintro(hx|rfl)
  .obtain⟨y,h1,h2⟩:=(h.shared x).1 hx;exact⟨y,.inl h1,h2⟩
  exact⟨b,.inr rfl,hb⟩
 rintro⟨y,h1|rfl,h2⟩
 .exact .inl ((h.shared x).2 ⟨y,h1,h2⟩)
 rw[hb] at h2;exact .inr (aT h2).symm
variable{fn:en}{kd:kC}{k:List Item}{cs:List bY}{aM:Array cY}
theorem Yp{i:Nat}{rest:List Nat}{o:cY}{x:bI}{tys:Array aV}(Ee:kd≠.early)(ho:aM[i]?=some o)(hop:o.op=.go { callee:=.value x,args:=#[],argTypes:=tys })(hd:o.dst=none)(hg:o.guard=none)
  {fi:en} {captured:Array ai} (hx:(jF fn tmps (.inRegion aM (i::rest)::k) .run kd).eval x=.func (.func fi) #[] captured):AtGo P (GK fn tmps (.inRegion aM (i::rest)::k) kd cs) (GK fn tmps (.inRegion aM rest::k) kd cs) (xM P fi captured):=by
 refine⟨rfl,rfl,fun w=>?_⟩;have hw:((aM[i]?).map (dg · (yielded aM tmps))).getD false=true:=by rw[ho];simp[dg,hg]
 have Zd:(kd == .early)=false:=beq_eq_false_iff_ne.2 Ee;have e1:fE P true (GK fn tmps (.inRegion aM (i::rest)::k) kd cs) w=fC P true (jF fn tmps (.inRegion aM (i::rest)::k) .run kd) cs none w:=if_pos hw;rw[e1]
 have e2:cC (jF fn tmps (.inRegion aM (i::rest)::k) .run kd).eval o=fo (Next.spawn { target:=.fn (.func fi) captured,args:=#[] }):=by
  unfold cC;rw[hop];simp only[resolve,hx,Deferred.ofValue,List.map_toArray,gw,eA,pure_bind]
 have e3:fC P true (jF fn tmps (.inRegion aM (i::rest)::k) .run kd) cs none w=eH P true (jF fn tmps (.inRegion aM (i::rest)::k) .run kd) cs none (cC (jF fn tmps (.inRegion aM (i::rest)::k) .run kd).eval o) w:=by
  unfold fC;have:(jF fn tmps (.inRegion aM (i::rest)::k) .run kd).oper?=some o:=ho;rw[this];rfl
 rw[e3,e2];unfold eH;have e4:(fo (Next.spawn { target:=.fn (.func fi) captured,args:=#[] }):Sem Next).runT P w #[]=(.ok (.spawn { target:=.fn (.func fi) captured,args:=#[] }) w,#[]):=rfl;simp only[if_true,e4];simp only[jF,Zd,bF,if_false,GStep.after,eA,Frame.finish,ho,gZ,hd,Bool.and_false,Bool.false_and];rfl
theorem UD{i:Nat}{rest:List Nat}{o:cY}{x y:bI}{t0 t1:aV}(Ee:kd≠.early)(ho:aM[i]?=some o)(hop:o.op=.select #[{ chan:=x,send:=none,elem:=t0 },{ chan:=y,send:=none,elem:=t1 }] true)(hg:o.guard=none)
  (hz0:∀w es,(jl t0).runT P w es=(.ok z0 w,es)) (hz1:∀w es,(jl t1).runT P w es=(.ok z1 w,es))
  (hx:(jF fn tmps (.inRegion aM (i::rest)::k) .run kd).eval x=.chan (some c0)) (hy:(jF fn tmps (.inRegion aM (i::rest)::k) .run kd).eval y=.chan (some c1)):aa2 P c0 c1 z0 z1 (GK fn tmps (.inRegion aM (i::rest)::k) kd cs):=by
 refine⟨rfl,rfl,rfl,fun w=>?_⟩;have hw:((aM[i]?).map (dg · (yielded aM tmps))).getD false=true:=by rw[ho];simp[dg,hg]
 have Zd:(kd == .early)=false:=beq_eq_false_iff_ne.2 Ee;have e1:fE P true (GK fn tmps (.inRegion aM (i::rest)::k) kd cs) w=fC P true (jF fn tmps (.inRegion aM (i::rest)::k) .run kd) cs none w:=if_pos hw;rw[e1]
 have e2:(cC (jF fn tmps (.inRegion aM (i::rest)::k) .run kd).eval o).runT P w #[]=(.ok (Next.comm (km c0 c1 z0 z1) true .select) w,#[]):=by
  have h1:cC (jF fn tmps (.inRegion aM (i::rest)::k) .run kd).eval o=((jl t0).bind fun a=>(jl t1).bind fun b=>fo (Next.comm #[{ chan:=.chan (some c0),send:=none,zero:=a },{ chan:=.chan (some c1),send:=none,zero:=b }] true .select)):=by
   unfold cC;rw[hop];simp only[qg,<-List.mapM'_eq_mapM,List.mapM',hx,hy,Option.map_none,bind_assoc,pure_bind,map_eq_pure_bind];rfl
  rw[h1,IC,hz0];simp only;rw[IC,hz1];rfl
 have e3:fC P true (jF fn tmps (.inRegion aM (i::rest)::k) .run kd) cs none w=eH P true (jF fn tmps (.inRegion aM (i::rest)::k) .run kd) cs none (cC (jF fn tmps (.inRegion aM (i::rest)::k) .run kd).eval o) w:=by
  unfold fC;have:(jF fn tmps (.inRegion aM (i::rest)::k) .run kd).oper?=some o:=ho;rw[this];rfl
 rw[e3];unfold eH;simp only[if_true,e2];simp only[jF,Zd,bF,if_false];rfl
theorem GR{i:Nat}{rest:List Nat}{o:cY}{d:Tmp}(ho:aM[i]?=some o)(hd:o.dst=some d)(kk:Nat)(v:ai) :
  iV P c0 c1 z0 z1 (GK fn tmps (.inRegion aM (i::rest)::k) kd cs) kk v=GK fn (tmps.setIfInBounds d (.tuple #[goInt kk,.bool true,if kk=0 then v else z0,if kk=1 then v else z1])) (.inRegion aM rest::k) kd cs:=by
 have hc:commResult (km c0 c1 z0 z1) .select kk v true=.tuple #[goInt kk,.bool true,if kk=0 then v else z0,if kk=1 then v else z1]:=by
  simp only[commResult,km,rcase]
  congr 1
  have e0:(((0:Nat):Int)=(kk:Int))=(kk=0):=by apply propext;omega
  have e1:(((1:Nat):Int)=(kk:Int))=(kk=1):=by apply propext;omega
  simp;simp only[Int.natCast_zero,Int.natCast_one] at e0 e1;constructor
  .by_cases h:kk=0<;>simp[h,e0]<;>omega
  by_cases h:kk=1<;>simp[h,e1]<;>omega
 simp only[iV,Goroutine.finishComm,GK,G,jF,Frame.finish,ho,hd,gZ,hc]
end
section
variable{P:aK}{c0 c1:Nat}{z0 z1:ai}{Fin:List ai->List ai->(Nat->Prop)->(Nat->Prop)->aC->ak->Prop}{f m:Nat}{acc out:List ai}{S O:Nat->Prop}{g:aC}{w:ak}
 {F:Nat->Bool} {B:Nat->Prop} {tmps bB:Array ai} {lw:ak} {U:Rn}
theorem MS.xD(h:MS P F B S O tmps bB lw w U){c:Nat}(hc:S c):c<w.heap.size/\¬O c:=by
 obtain⟨b,hB,hρ⟩:=(h.shared c).1 hc;obtain⟨o,o',_,h2,_⟩:=h.wr.at_ b c hρ;refine⟨eY h2,fun ho=>?_⟩;rw[h.own] at ho;obtain⟨b',h1,h3⟩:=ho;exact h1 (h.wr.inj _ _ _ hρ h3▸hB)
theorem gX.abb(T:Quiet P)(hF:vQ P F){fn:en}{kd:kC}(hE:kd≠.early)(hi:P.inits.idxOf? fn=none){c:h_}(hc:iT P F c=true)(hc':eo c=true)
  (hm:MS P F B S O tmps bB lw w U) {Q:Act->ak->Prop} (hQ:∀a W' I d,Q a (dR W' I d)->Q a W') (h:∀I d,c.wp P (fun e a W'=>e=.normal/\Q a W') ⟨tmps,[]⟩ (dR lw I d)) {k:List Item} {cs:List bY}
  (cont:∀ov lF lg ρ1 O1 w1,MS P F B S O1 ov lF lg w1 ρ1->Q ⟨ov,[]⟩ lg->Rn.le U ρ1->(∀c,O c->O1 c)->(∀c,S c->w1.heap[c]?=w.heap[c]?)->gX P c0 c1 z0 z1 Fin f m acc out S O1 (G (jF fn lF k .run kd) cs) w1) :
  gX P c0 c1 z0 z1 Fin f m acc out S O (G (jF fn bB (.code c::k) .run kd) cs) w:=by
 have hw:=ET (main:=true) T hF hm.MI hE hi hc hc' hm.av hm.wr hm.w8 hm.ok hQ h hm.shared k cs;rw[<-hm.own] at hw;have hw':=hw.keep w fun c hc=>⟨(hm.xD hc).1,(hm.xD hc).2,rfl⟩
 refine gX.Ki hw' ?_;rintro O1 g1 w1 ⟨⟨ov,lF,lg,ρ1,rfl,V_,hq,hkn⟩,hk⟩;refine cont ov lF lg ρ1 O1 w1 ⟨V_,hkn.wr,hkn.w8,aG hm.MI hkn.grow,hkn.own,hkn.shared,hkn.ok⟩ hq hkn.le (fun c ho=>?_) fun c hc=>(hk c hc).2.2;rw[hm.own] at ho;obtain⟨b,h1,h2⟩:=ho;rw[hkn.own];exact⟨b,h1,hkn.le _ _ h2⟩
theorem gX.op{aM:Array cY}{i:Nat}{rest:List Nat}{o:cY}{fn:en}{kd:kC}{k:List Item}{cs:List bY}{v:ai}{d:Tmp}(Ee:kd≠.early)(ho:aM[i]?=some o)(hg:o.guard=none)(hd:o.dst=some d)
  (h:∀w,(cC (jF fn bB (.inRegion aM (i::rest)::k) .run kd).eval o).runT P w #[]=(.ok (.value v) w,#[]))
  (hk:gX P c0 c1 z0 z1 Fin f m acc out S O (GK fn (bB.setIfInBounds d v) (.inRegion aM rest::k) kd cs) w):gX P c0 c1 z0 z1 Fin f m acc out S O (GK fn bB (.inRegion aM (i::rest)::k) kd cs) w:=by
 refine .ctl rfl rfl (fun w=>?_) rfl rfl hk;have:=QF (P:=P) (main:=true) (fn:=fn) (tmps:=bB) (kd:=kd) (k:=k) (cs:=cs) (rest:=rest) Ee ho hg (h w);rw[this];simp only[hd];rfl
end
end Go.Lag
namespace Go.Proofs.YtffladgmkiimjaaGreatDoor
open Go.RowKit Go.Lag
open Go.Conc
def m_(X:Nat->Prop)(w:ak)(v:ai)(n:Nat)(xs:List ai):Prop:=
 (v=.slice none 0 0/\n=0/\xs=[])\/∃g off cap,v=.slice (some ⟨g,off,none⟩) n cap/\(n<=4294967296/\n<=cap)/\X g/\∀j u,xs[j]?=some u->w.cell? ⟨g,off+j,none⟩=some u
def m_.to{X:Nat->Prop}{w0 w:ak}{v:ai}{n:Nat}{xs:List ai}(h:m_ X w0 v n xs)(hlt:∀c,X c->c<w.heap.size)(hc:∀a:dc,X a.block->w.cell? a=w0.cell? a):Reads w v n xs:=by
 rcases h with h|⟨g,off,cap,h1,h2,h3,h4⟩
 .exact .inl h
 exact .inr ⟨g,off,cap,h1,h2,hlt g h3,fun j u hj=>(hc ⟨g,off+j,none⟩ h3).trans (h4 j u hj)⟩
structure Qv(P:aK)(b:BB)(bn aL az all:ai)(l:List eV)(ss:List Int)(ms:List Mk)(X0:Nat->Prop)(w0:ak)(xb fb tb c0 c1:Nat):Prop where
 e:P=aq
 f178:P.funcs[(178:Nat)]?=some Tryz.f178
 i159:P.inits.idxOf? 159=none
 i178:P.inits.idxOf? 178=none
 ok:b.Ok
 ade:∀a∈l,a.Ok
 I5:∀s∈ss,1<=s/\s<=8
 mks:∀m∈ms,1<=m.minute/\m.minute<=8
 cl:Closed fw X0 w0
 low:∀c,X0 c->P.globals.size<=c
 w8:P.globals.size<=w0.heap.size
 xx:X0 xb
 xf:X0 fb
 xt:X0 tb
 xc:∀i u,(b.open bn aL az all)[i]?=some u->w0.cell? ⟨xb,i,none⟩=some u
 fc:w0.cell? ⟨fb,0,none⟩=some (.chan (some c0))
 tc:w0.cell? ⟨tb,0,none⟩=some (.chan (some c1))
 rs:m_ X0 w0 aL ss.length (ss.map (ax .i64))
 rm:m_ X0 w0 az ms.length (ep ms)
 ra:m_ X0 w0 all l.length (rowOf l)
def Kp(X0:Nat->Prop)(w0 lw:ak):Prop:=∀c,X0 c->lw.heap[c]?=(shut X0 w0).heap[c]?
section
variable{P:aK}{b:BB}{bn aL az all:ai}{l:List eV}{ss:List Int}{ms:List Mk}{X0:Nat->Prop}{w0:ak}{xb fb tb c0 c1:Nat}
 {S O:Nat->Prop} {tmps bB:Array ai} {lw w:ak} {U:Rn} {B:Nat->Prop}
theorem Kp.cell(h:Kp X0 w0 lw){a:dc}(ha:X0 a.block):lw.cell? a=w0.cell? a:=(jo (h _ ha)).trans (xC ha)
theorem Kp.lt(E:Qv P b bn aL az all l ss ms X0 w0 xb fb tb c0 c1)(h:Kp X0 w0 lw){c:Nat}(hc:X0 c):c<lw.heap.size:=by
 obtain⟨cs,e,z,h1,_⟩:=E.cl c hc;have:=h c hc;rw[EZ h1 hc] at this;exact eY this
theorem Kp.below(E:Qv P b bn aL az all l ss ms X0 w0 xb fb tb c0 c1)(h:Kp X0 w0 lw){eP:ak}(hb:Bw lw eP):Kp X0 w0 eP:=fun c hc=>(hb.block c (h.lt E hc)).trans (h c hc)
theorem Kp.reads(E:Qv P b bn aL az all l ss ms X0 w0 xb fb tb c0 c1)(h:Kp X0 w0 lw){v:ai}{n:Nat}{xs:List ai}(hr:m_ X0 w0 v n xs):Reads lw v n xs:=hr.to (fun c hc=>h.lt E hc) fun a ha=>h.cell ha
theorem Kp.heap(h:Kp X0 w0 lw){eP:ak}(e:eP.heap=lw.heap):Kp X0 w0 eP:=fun c hc=>by rw[e];exact h c hc
structure St(P:aK)(X0:Nat->Prop)(w0:ak)(S O:Nat->Prop)(tmps bB:Array ai)(lw w:ak)(U:Rn)(B:Nat->Prop):Prop where
 ms:MS P fw B S O tmps bB lw w U
 id:Rn.le (zg X0) U
 xB:∀c,X0 c->B c
 kp:Kp X0 w0 lw
 kw:∀c,X0 c->w.heap[c]?=w0.heap[c]?
theorem St.xS(st:St P X0 w0 S O tmps bB lw w U B){c:Nat}(hc:X0 c):S c:=(st.ms.shared c).2 ⟨c,st.xB c hc,st.id _ _ (wW hc)⟩
theorem ZL{U:Rn}(hid:Rn.le (zg X0) U){a a':dc}(ha:X0 a.block)(h:AR U a a'):a'=a:=by
 have h1:=hid _ _ (wW ha);have h2:=h.block;rw[h1] at h2;have h3:=aT h2;have h4:=h.off;have h5:=h.spot;obtain⟨b1,o1,s1⟩:=a;obtain⟨b2,o2,s2⟩:=a';dsimp only at h3 h4 h5;subst h3;subst h4;subst h5;rfl
theorem St.ptr(st:St P X0 w0 S O tmps bB lw w U B){i:Nat}{a:dc}(ha:X0 a.block)(hi:tmps[i]?=some (ptr a)):bB[i]?=some (ptr a):=by
 obtain⟨y,hy,hv⟩:=st.ms.get hi;cases hv with
 |@ptr _ a' Hk=>rw[ZL st.id ha Hk] at hy;exact hy
theorem St.flat(st:St P X0 w0 S O tmps bB lw w U B){i:Nat}{v:ai}(hv:v.oneCell'=true/\(match v with|.bool _|.int ..|.chan _=>true|_=>false)=true)(hi:tmps[i]?=some v):bB[i]?=some v:=by
 obtain⟨y,hy,h⟩:=st.ms.get hi;obtain⟨_,h2⟩:=hv;cases h<;>first|exact hy|cases h2
theorem St.bool(st:St P X0 w0 S O tmps bB lw w U B){i:Nat}{x:Bool}(hi:tmps[i]?=some (.bool x)):bB[i]?=some (.bool x):=st.flat ⟨rfl,rfl⟩ hi
theorem St.chan(st:St P X0 w0 S O tmps bB lw w U B){i:Nat}{x:Option Nat}(hi:tmps[i]?=some (.chan x)):bB[i]?=some (.chan x):=st.flat ⟨rfl,rfl⟩ hi
variable{z0 z1:ai}{Fin:List ai->List ai->(Nat->Prop)->(Nat->Prop)->aC->ak->Prop}{f m:Nat}{acc out:List ai}
theorem St.piece(E:Qv P b bn aL az all l ss ms X0 w0 xb fb tb c0 c1)(st:St P X0 w0 S O tmps bB lw w U B){c:h_}(hc:(iT aq fw c&&eo c)=true){R:Act->ak->Prop}(hR:∀a W' I d,R a (dR W' I d)->R a W')
  (h:∀eP,eP.heap=lw.heap->c.wp aq (fun e a W'=>e=.normal/\R a W'/\Kp X0 w0 W') ⟨tmps,[]⟩ eP) {k:List Item} {cs:List bY}
  (cont:∀ov lF lg ρ1 O1 w1,St P X0 w0 S O1 ov lF lg w1 ρ1 B->R ⟨ov,[]⟩ lg->Rn.le U ρ1->(∀c,O c->O1 c)->gX P c0 c1 z0 z1 Fin f m acc out S O1 (GK 159 lF k .normal cs) w1) :
  gX P c0 c1 z0 z1 Fin f m acc out S O (GK 159 bB (.code c::k) .normal cs) w:=by
 have hq:Quiet P:=quiet_of E.e;have Tg:vQ P fw:=Nr E.e;rw[aI] at hc;refine gX.abb hq Tg sM E.i159 (by rw[E.e];exact hc.1) hc.2 st.ms (Q:=fun a W'=>R a W'/\Kp X0 w0 W') (fun a W' I d hq=>⟨hR _ _ _ _ hq.1,hq.2⟩) (fun I d=>by rw[E.e];exact h (dR lw I d) rfl) ?_;intro ov lF lg ρ1 O1 w1 M0 hq hle hO hS;exact cont ov lF lg ρ1 O1 w1 ⟨M0,fun b c h=>hle _ _ (st.id _ _ h),st.xB,hq.2,fun c hc=>(hS c (st.xS hc)).trans (st.kw c hc)⟩ hq.1 hle hO
end
def wQ{c:h_}(h:c∈[gR5,gR6,gR7,gR8,gR9,Nn,Ia,Tz,Cj,Ci,Ty]):(iT aq fw c&&eo c)=true:=a7.1 aip c h
end Go.Proofs.YtffladgmkiimjaaGreatDoor
