/- A PHASE: goroutine 0's way; what holds of the machine at every moment. .. -/
import Derived.Test.YtffladgmkiimjaaGreatDoorV07
import Derived.DyingErrors
import Derived.Test.YtffladgmkiimjaaGreatDoorV01
set_option linter.all false
set_option maxHeartbeats 0
set_option maxRecDepth 1000000
open Array renaming getElem?_setIfInBounds_ne -> aB,getElem?_eq_some_iff -> ah,getElem?_setIfInBounds_self_of_lt -> bg,replicate -> bz,append_empty -> dZ,mem_of_getElem? -> eV,all_eq_true' -> ko,getElem?_push -> lD,mapM_eq_mapM_toList -> o9
open Bool renaming and_eq_true -> aF,false_eq_true -> bE
open Go renaming Goroutine -> aC,Program -> aL,TypeId -> aZ,Value -> aj,World -> ak,undef -> ar,Operand -> bI,Frame -> bT,Oper -> cI,Addr -> cJ,execOp -> cu,FuncId -> dU,callFunc -> fG,stepG -> fe,Code -> gQ,Event -> gq,zeroValue -> iW,CallKind -> ki,unwind -> l_,partners -> xe
open Go.Conc renaming mem_ofEvents -> BF,runT_crowd_go -> C_,served -> fg,parked -> iB,offersAt_of_not_blocked -> mY,scase -> nP,crowd -> rh
open Go.Extern renaming findNext -> cZ,find -> fJ
open Go.Instr renaming loadAt -> mG
open Go.IntKind renaming i64 -> af
open Go.MemAct renaming ofEvent -> fT
open Go.MemOp renaming ofEvents -> iC
open Go.Proofs.Tryz renaming prog -> aq,f159 -> kX
open Go.Region renaming wanted -> cL
open Go.Sem renaming runT_bind' -> GV
open Go.Value renaming int -> aD,int -> ag,tuple -> bB
open Go.stepG renaming oper -> eW,apply -> ek
open List renaming range -> aQ,mem_append -> bJ,all_eq_true -> bf,map_cons -> cP,mem_cons -> cy,mem_map -> dm,map_append -> eG,mem_toArray -> eR,map_nil -> fW,not_mem_nil -> gJ,mem_singleton -> kh
open List.range renaming loop -> cg
open Nat renaming le_trans -> aG,le_refl -> aJ,lt_of_lt_of_le -> bD,eq_zero_or_pos -> eX,zero_le -> iq
open Ne renaming symm -> xH
open Option renaming map_some -> dJ,bind_some -> gI,isNone_iff_eq_none -> lh
open Option.some renaming inj -> a7,injEq -> gP
open Pure renaming pure -> eQ
namespace Go.Lag
open Go.Conc
section
variable(P:aL)(c0 c1:Nat)(z0 z1:aj)
def jY:Array CommCase:=#[rcase c0 z0,rcase c1 z1]
def Zo(g:aC):Prop:=g.status=.running/\g.dying=none/\g.offers=none/\∀w,fe P true g w=.comm g (jY c0 c1 z0 z1) true .select w #[]
def AtGo(g g' child:aC):Prop:=g.status=.running/\g.dying=none/\∀w,fe P true g w=.spawn g' child w #[]
def iJ(g:aC)(k:Nat)(v:aj):Goroutine:=g.finishComm P (jY c0 c1 z0 z1) .select k v true
inductive gG(Fin:List aj->List aj->(Nat->Prop)->(Nat->Prop)->aC->ak->Prop):Nat->Nat->List aj->List aj->(Nat->Prop)->(Nat->Prop)->aC->ak->Prop
 |fin {acc out:List aj} {S O:Nat->Prop} {g:aC} {w:ak}:g.status=.running->(∀w1,iO (fun c=>S c\/O c) w w1->Fin acc out S O g w1)->gG Fin 0 0 acc out S O g w
 |step {f m:Nat} {acc out:List aj} {S O:Nat->Prop} {g:aC} {w:ak}:g.status=.running->g.dying=none->
   (∀w1,iO (fun c=>S c\/O c) w w1->∃g2 w2 es,fe P true g w1=.go g2 w2 es/\J8 S O w1 w2 es/\g2.status=.running/\g2.dying=none)->
   (∀w1,iO (fun c=>S c\/O c) w w1->∀g2 w2 es,fe P true g w1=.go g2 w2 es->gG Fin f m acc out S (own O w1 w2) g2 w2)->gG Fin f m acc out S O g w
 |spawn {f m:Nat} {acc out:List aj} {S O Sk S' O':Nat->Prop} {g g' child:aC} {w:ak} {b:Bool} {p:aj}:AtGo P g g' child->g'.status=.running->child.status=.running->(∀c,Sk c->S c\/O c)->gU P c0 c1 Sk p b (fun _=>False) child w->
   (∀c,S' c->S c\/O c)->(∀c,O' c->O c/\¬Sk c/\¬S' c)->gG Fin (f+b.toNat) (m+1) (acc++if b then[p] else[]) out S' O' g' w->gG Fin f m acc out S O g w
 |select {f m:Nat} {acc out:List aj} {S O:Nat->Prop} {g:aC} {w:ak}:Zo P c0 c1 z0 z1 g->(∀v f',f=f'+1->v∈acc->gG Fin f' (m+1) acc (out++[v]) S O (iJ P c0 c1 z0 z1 g 0 v) w)->
   (f<=m->gG Fin f m acc out S O (iJ P c0 c1 z0 z1 g 1 (.bool true)) w)->gG Fin f (m+1) acc out S O g w
variable{P c0 c1 z0 z1}
theorem gG.rely{Fin:List aj->List aj->(Nat->Prop)->(Nat->Prop)->aC->ak->Prop}{f m:Nat}{acc out:List aj}{S O:Nat->Prop}{g:aC}{w:ak}(h:gG P c0 c1 z0 z1 Fin f m acc out S O g w) :
  ∀ {w1:ak},iO (fun c=>S c\/O c) w w1->gG P c0 c1 z0 z1 Fin f m acc out S O g w1:=by
 induction h with
 |fin hs h=>intro w1 hr;exact .fin hs fun w2 h2=>h w2 (hr.trans h2)
 |step a b c d _=>intro w1 hr;exact .step a b (fun w2 h2=>c w2 (hr.trans h2)) fun w2 h2=>d w2 (hr.trans h2)
 |spawn h1 h2 h2' h3 h4 h5 h6 _ ih=>
  intro w1 hr;exact .spawn h1 h2 h2' h3 (h4.rely _ _ _ ⟨hr.grow,fun c hc=>hr.keep c (h3 c (by simpa using hc))⟩) h5 h6 (ih ⟨hr.grow,fun c hc=>hr.keep c (hc.elim (h5 c) fun h=>.inr (h6 c h).1)⟩)
 |select h1 _ _ Yz ih2=>intro w1 hr;exact .select h1 (fun v f' e hv=>Yz v f' e hv hr) fun hf=>ih2 hf hr
theorem gG.Jb{Fin:List aj->List aj->(Nat->Prop)->(Nat->Prop)->aC->ak->Prop}{f m:Nat}{acc out:List aj}{S:Nat->Prop}{Stop:(Nat->Prop)->aC->ak->Prop}{O:Nat->Prop}{g:aC}{w:ak}(h:Walk P true S Stop O g w)
  (k:∀O g w,Stop O g w->gG P c0 c1 z0 z1 Fin f m acc out S O g w):gG P c0 c1 z0 z1 Fin f m acc out S O g w:=by
 induction h with
 |@stop O g w h=>exact k _ _ _ (h w (.refl _ _))
 |step a b c d ih=>exact .step a b c ih
end
structure Geo(c0 c1:Nat)(S0 O0:Nat->Prop)(L:List X)(n:Nat):Prop where
 Jl:∀c,S0 c\/O0 c->c<n/\c≠c0/\c≠c1
 dj0:∀c,S0 c->¬O0 c
 lt:∀x∈L,∀c,x.S c\/x.O c->c<n/\c≠c0/\c≠c1
 dj:∀x∈L,∀c,x.S c->¬x.O c
 mw:∀x∈L,∀c,O0 c->¬x.S c/\¬x.O c
 wm:∀x∈L,∀c,x.O c->¬S0 c
 ww:∀x∈L,∀y∈L,x.id≠y.id->∀c,x.O c->¬y.S c/\¬y.O c
def SL(L:List X)(g c:Nat):Prop:=∃x∈L,x.id=g/\x.S c
def OL(L:List X)(g c:Nat):Prop:=∃x∈L,x.id=g/\x.O c
def act(L:List X)(g:Nat):Prop:=∃x∈L,x.id=g
def Chan(c:Nat)(w:ak):Prop:=∃s tm,w.heap[c]?=some (.chan 0 #[] false s s tm)
structure Inv(P:aL)(c0 c1:Nat)(S0 O0:Nat->Prop)(gm:aC)(L:List X)(gs:Array aC)(w:ak)(t:Trace)(q:Nat->Nat):Prop where
 zero:gs[0]?=some gm
 slot:∀x∈L,gs[x.id]?=some x.g/\0<x.id
 ws:∀x∈L,WS P c0 c1 x/\x.w=w
 nodup:(L.map X.id).Nodup
 old:∀i g,0<i->gs[i]?=some g->¬act L i->QuitsD P (q i) (Deaf t i) g
 above:∀j,gs.size<=j->Deaf t j=0
 pt:PT (act L) (SL L) (OL L) w.heap.size t
 geo:Geo c0 c1 S0 O0 L w.heap.size
 Cz:Chan c0 w
 Cw:Chan c1 w
 ne:c0≠c1
 wk0:∀g g' w',Chan c0 w'->Chan c1 w'->woken P g g' w' gm=gm
 st0:gm.status=.running\/gm.status=.blocked
section
variable{P:aL}{c0 c1:Nat}{S0 O0:Nat->Prop}{gm:aC}{L:List X}{gs:Array aC}{w:ak}{t:Trace}{q:Nat->Nat}
theorem PT.congr{A A':Nat->Prop}{S O S' O':Nat->Nat->Prop}{B:Nat}(h:PT A S O B t)(hA:∀g,A' g↔A g)(hS:∀g,A g->∀c,S' g c↔S g c)(hO:∀g,A g->∀c,O' g c↔O g c):PT A' S' O' B t:=by
 refine⟨h.clean,fun i a c ha hc=>(h.known i a c ha hc).imp id ?_,fun g hg i a c ha hc hs=>h.wk g ((hA g).1 hg) i a c ha hc ((hS g ((hA g).1 hg) c).1 hs),fun g hg i a c ha hc ho=>h.ow g ((hA g).1 hg) i a c ha hc ((hO g ((hA g).1 hg) c).1 ho),
  fun i g h1 h2 h3=>(h.over i g h1 h2 h3).imp id (hA g).2,h.hears,fun g hg=>h.vG g ((hA g).1 hg),h.seen,fun g hg=>h.pos g ((hA g).1 hg)⟩
 rintro⟨g,hg,h1,h2⟩;exact⟨g,(hA g).2 hg,h1,h2.imp (hO g hg c).2 fun h3=>⟨h3.1,(hS g hg c).2 h3.2⟩⟩
theorem gU.running{S:Nat->Prop}{p:aj}{b:Bool}{O:Nat->Prop}{g:aC}{w:ak}(h:gU P c0 c1 S p b O g w):g.status=.running:=by
 cases h with
 |step h _ _ _=>exact h
 |BN h _=>exact h.1
 |BM h _=>exact h.1
theorem WS.status{x:X}(h:WS P c0 c1 x):x.g.status=.running\/x.g.status=.blocked:=by
 cases h with
 |run h=>exact .inl h.running
 |uv _ _ _ e=>right;rw[e];rfl
 |uu _ _ _ e=>right;rw[e];rfl
theorem WS.woken{x:X}(h:WS P c0 c1 x)(h0:Chan c0 w)(h1:Chan c1 w)(g g':aC):Conc.woken P g g' w x.g=x.g:=by
 obtain⟨s,tm,h0⟩:=h0;obtain⟨s',tm',h1⟩:=h1;cases h with
 |run h=>exact woken_run h.running
 |uv _ _ _ e=>rw[e];exact woken_send_open _ _ h0
 |uu _ _ _ e=>rw[e];exact woken_send_open _ _ h1
theorem WS.rely{x:X}(h:WS P c0 c1 x){w':ak}(hr:iO (fun c=>x.S c\/x.O c) x.w w'):WS P c0 c1 (x.at w'):=by
 cases h with
 |run h=>exact .run (h.rely _ _ _ hr)
 |uv h1 h2 h3 h4=>exact .uv h1 h2 (h3.rely _ _ _ hr) h4
 |uu h1 h2 h3 h4=>exact .uu h1 h2 h3 h4
theorem KX{l:List X}(h:(l.map X.id).Nodup):∀x∈l,∀y∈l,x.id=y.id->x=y:=by
 induction l with
 |nil=>intro x hx;cases hx
 |cons a l ih=>
  simp only[cP,List.nodup_cons,dm,not_exists,not_and] at h;intro x hx y hy e;rcases cy.1 hx with rfl|hx'<;>rcases cy.1 hy with rfl|hy'
  .rfl
  .exact absurd e.symm (h.1 y hy')
  .exact absurd e (h.1 x hx')
  exact ih h.2 x hx' y hy' e
theorem od{l1 l2:List X}{x:X}(h:((l1++x::l2).map X.id).Nodup):∀y∈l1++l2,y.id≠x.id:=by
 simp only[eG,cP,List.nodup_append,List.nodup_cons,dm,cy] at h;intro y hy e;rcases bJ.1 hy with hy|hy
 .exact h.2.2 _ ⟨y,hy,rfl⟩ x.id (.inl rfl) e
 exact h.2.1.1 ⟨y,hy,e⟩
theorem Inv.size(h:Inv P c0 c1 S0 O0 gm L gs w t q):0<gs.size:=(ah.1 h.zero).1
theorem Inv.woken(h:Inv P c0 c1 S0 O0 gm L gs w t q){w':ak}(h0:Chan c0 w')(h1:Chan c1 w')(g g':aC):gs.map (Conc.woken P g g' w')=gs:=by
 apply Array.ext_getElem?;intro i;rw[Array.getElem?_map];cases hi:gs[i]? with
 |none=>rfl
 |some y=>
  simp only[dJ];rcases eX i with rfl|jS
  .rw[h.zero] at hi;cases hi;rw[h.wk0 g g' w' h0 h1]
  by_cases ha:act L i
  .obtain⟨x,hx,rfl⟩:=ha;rw[(h.slot x hx).1] at hi;cases hi;rw[(h.ws x hx).1.woken h0 h1]
  rw[woken_quitsD (h.old i y jS hi ha)]
theorem Inv.awake(h:Inv P c0 c1 S0 O0 gm L gs w t q):∀x∈gs,awake x:=by
 intro y hy;obtain⟨i,hi⟩:=Array.mem_iff_getElem?.1 hy;rcases eX i with rfl|jS
 .rw[h.zero] at hi;cases hi;exact awake_of (h.st0.imp id .inl)
 by_cases ha:act L i
 .obtain⟨x,hx,rfl⟩:=ha;rw[(h.slot x hx).1] at hi;cases hi;exact awake_of ((h.ws x hx).1.status.imp id .inl)
 exact awake_of ((h.old i y jS hi ha).status.elim .inl fun x=>.inr (.inr x))
theorem sK{K:Nat->Prop}{w w':ak}(h:w'.heap=w.heap):iO K w w':=⟨by rw[h];exact aJ _,fun c _=>by rw[h]⟩
theorem og{w':ak}{L:List X}{y:X}:y∈L.map (X.at w')↔∃x∈L,y=x.at w':=by
 simp only[dm];exact⟨fun⟨x,h1,h2⟩=>⟨x,h1,h2.symm⟩,fun⟨x,h1,h2⟩=>⟨x,h1,h2.symm⟩⟩
theorem J1{w':ak}{g:Nat}:act (L.map (X.at w')) g↔act L g:=by
 constructor
 .rintro⟨y,hy,rfl⟩;obtain⟨x,hx,rfl⟩:=og.1 hy;exact⟨x,hx,rfl⟩
 rintro⟨x,hx,rfl⟩;exact⟨x.at w',og.2 ⟨x,hx,rfl⟩,rfl⟩
theorem Zi{w':ak}{g c:Nat}:SL (L.map (X.at w')) g c↔SL L g c:=by
 constructor
 .rintro⟨y,hy,rfl,hs⟩;obtain⟨x,hx,rfl⟩:=og.1 hy;exact⟨x,hx,rfl,hs⟩
 rintro⟨x,hx,rfl,hs⟩;exact⟨x.at w',og.2 ⟨x,hx,rfl⟩,rfl,hs⟩
theorem Zk{w':ak}{g c:Nat}:OL (L.map (X.at w')) g c↔OL L g c:=by
 constructor
 .rintro⟨y,hy,rfl,hs⟩;obtain⟨x,hx,rfl⟩:=og.1 hy;exact⟨x,hx,rfl,hs⟩
 rintro⟨x,hx,rfl,hs⟩;exact⟨x.at w',og.2 ⟨x,hx,rfl⟩,rfl,hs⟩
theorem Geo.at{n:Nat}{w':ak}(h:Geo c0 c1 S0 O0 L n){n':Nat}(hn:n<=n'):Geo c0 c1 S0 O0 (L.map (X.at w')) n':=by
 have lift:∀ {Q:X->Prop},(∀x∈L,Q (x.at w'))->∀y∈L.map (X.at w'),Q y:=fun hq y hy=>by
  obtain⟨x,hx,rfl⟩:=og.1 hy;exact hq x hx
 refine⟨fun c hc=>?_,h.dj0,lift fun x hx c hc=>?_,lift fun x hx c hc=>h.dj x hx c hc,lift fun x hx c hc=>h.mw x hx c hc,lift fun x hx c hc=>h.wm x hx c hc,lift fun x hx=>lift fun y hy he c hc=>h.ww x hx y hy he c hc⟩
 .have:=h.Jl c hc;exact⟨oN,this.2⟩
 have:=h.lt x hx c hc;exact⟨oN,this.2⟩
theorem T8(L:List X)(w':ak):(L.map (X.at w')).map X.id=L.map X.id:=by
 rw[List.map_map];rfl
theorem Inv.draw(h:Inv P c0 c1 S0 O0 gm L gs w t q){w':ak}(hw:w'.heap=w.heap):Inv P c0 c1 S0 O0 gm (L.map (X.at w')) gs w' t q:=by
 have hlt:w'.heap.size=w.heap.size:=by rw[hw]
 refine⟨h.zero,fun y hy=>?_,fun y hy=>?_,by rw[T8];exact h.nodup,fun i g hi hg ha=>h.old i g hi hg fun a=>ha (J1.2 a),h.above,?_,?_,?_,?_,h.ne,h.wk0,h.st0⟩
 .obtain⟨x,hx,rfl⟩:=og.1 hy;exact h.slot x hx
 .obtain⟨x,hx,rfl⟩:=og.1 hy;refine⟨(h.ws x hx).1.rely ?_,rfl⟩;rw[(h.ws x hx).2];exact sK hw
 .rw[hlt];exact h.pt.congr (fun g=>J1) (fun g _ c=>Zi) fun g _ c=>Zk
 .exact h.geo.at oN
 .obtain⟨s,tm,e⟩:=h.Cz;exact⟨s,tm,by rw[hw];exact e⟩
 obtain⟨s,tm,e⟩:=h.Cw;exact⟨s,tm,by rw[hw];exact e⟩
end
open Go.ConcN (upd upd_ne upd_same sumTo sumTo_upd)
section
variable{P:aL}{c0 c1:Nat}{S0 O0:Nat->Prop}{gm:aC}{L l1 l2:List X}{x:X}{gs:Array aC}{w:ak}{t u:Trace}{q:Nat->Nat}
theorem Ek{k:Nat}{fn:dU}{pos:String}{es:Array gq}{R W:Nat->Prop}{B:Nat}(h:∀e∈es,SZ R W e)(hR:∀c,R c->c<B):∀op∈iC k fn pos es,op.g=k/\J3 R W op/\ou op/\op.act.low B:=by
 intro op hop;obtain⟨e,he,rfl⟩:=BF hop;refine⟨rfl,?_⟩;obtain⟨loc,wr,sy⟩:=e;rcases h _ he with⟨a,h1,h2,h3,h4⟩|⟨r,h1,h2,h3,h4⟩|h1
 .dsimp only at h1 h2 h4;subst h1;subst h2;refine⟨?_,⟨by simp[fT],by simp[fT]⟩,hR _ h3⟩;intro y hy;simp only[fT,MemAct.touch?,gP] at hy;subst hy;exact⟨rfl,a.block,rfl,h3,h4⟩
 .dsimp only at h1 h2 h4;subst h1;subst h2;have e:fT ⟨.obj r,wr,false⟩=.access ⟨.obj r,wr,false⟩:=by cases wr<;>rfl
  dsimp only;refine⟨?_,?_,?_⟩
  .intro y hy;dsimp only at hy;rw[e] at hy;simp only[MemAct.touch?,gP] at hy;subst hy;exact⟨rfl,r,rfl,h3,h4⟩
  .unfold ou;dsimp only;rw[e];exact⟨sN,sN⟩
  rw[e];exact hR _ h3
 dsimp only at h1;subst h1;refine⟨?_,⟨by simp[fT],by simp[fT]⟩,trivial⟩;intro y hy;simp[fT,MemAct.touch?] at hy
theorem gD{w':ak}{x2 y:X}:y∈l1.map (X.at w')++x2::l2.map (X.at w')↔y=x2\/∃z∈l1++l2,y=z.at w':=by
 simp only[bJ,cy,dm];constructor
 .rintro(⟨z,hz,rfl⟩|rfl|⟨z,hz,rfl⟩)
  .exact .inr ⟨z,.inl hz,rfl⟩
  .exact .inl rfl
  exact .inr ⟨z,.inr hz,rfl⟩
 rintro(rfl|⟨z,hz|hz,rfl⟩)
 .exact .inr (.inl rfl)
 .exact .inl ⟨z,hz,rfl⟩
 exact .inr (.inr ⟨z,hz,rfl⟩)
theorem pJ{w':ak}{y:X}:y∈l1.map (X.at w')++l2.map (X.at w')↔∃z∈l1++l2,y=z.at w':=by
 simp only[bJ,dm];constructor
 .rintro(⟨z,hz,rfl⟩|⟨z,hz,rfl⟩)
  .exact⟨z,.inl hz,rfl⟩
  exact⟨z,.inr hz,rfl⟩
 rintro⟨z,hz|hz,rfl⟩
 .exact .inl ⟨z,hz,rfl⟩
 exact .inr ⟨z,hz,rfl⟩
theorem bS{z:X}(h:z∈l1++l2):z∈l1++x::l2:=by
 rcases bJ.1 h with h|h
 .exact bJ.2 (.inl h)
 exact bJ.2 (.inr (List.mem_cons_of_mem _ h))
theorem nD:x∈l1++x::l2:=bJ.2 (.inr (List.mem_cons_self ..))
theorem m_{z:X}(h:z∈l1++x::l2):z=x\/z∈l1++l2:=by
 rcases bJ.1 h with h|h
 .exact .inr (bJ.2 (.inl h))
 rcases cy.1 h with rfl|h
 .exact .inl rfl
 exact .inr (bJ.2 (.inr h))
theorem Dt{w':ak}{x2:X}(hid:x2.id=x.id){g:Nat}:act (l1.map (X.at w')++x2::l2.map (X.at w')) g↔act (l1++x::l2) g:=by
 constructor
 .rintro⟨y,hy,rfl⟩;rcases gD.1 hy with rfl|⟨z,hz,rfl⟩
  .exact⟨x,nD,hid.symm⟩
  exact⟨z,bS hz,rfl⟩
 rintro⟨y,hy,rfl⟩;rcases m_ hy with rfl|hz
 .exact⟨x2,gD.2 (.inl rfl),hid⟩
 exact⟨y.at w',gD.2 (.inr ⟨y,hz,rfl⟩),rfl⟩
theorem PE{w':ak}{x2:X}(hid:x2.id=x.id):(l1.map (X.at w')++x2::l2.map (X.at w')).map X.id=(l1++x::l2).map X.id:=by
 simp only[eG,cP,List.map_map,hid];rfl
theorem Inv.S2(h:Inv P c0 c1 S0 O0 gm (l1++x::l2) gs w t q){g2:aC}{w2:ak}{es:Array gq}(xp:J8 x.S x.O w w2 es)(hp:gU P c0 c1 x.S x.p x.b (own x.O w w2) g2 w2)(fn:dU)(pos:String) :
  Inv P c0 c1 S0 O0 gm (l1.map (X.at w2)++{ x with O:=own x.O w w2,g:=g2,w:=w2 }::l2.map (X.at w2)) (gs.setIfInBounds x.id g2) w2 (t++iC x.id fn pos es) q/\iO (fun c=>S0 c\/O0 c) w w2:=by
 have hx:=nD (x:=x) (l1:=l1) (l2:=l2);have hid:({ x with O:=own x.O w w2,g:=g2,w:=w2 }:X).id=x.id:=rfl;have Hx:=h.slot x hx;have hlt:x.id<gs.size:=(ah.1 Hx.1).1;have hne:=od h.nodup;have hgrow:=xp.grow;have abt:c0<w.heap.size:=by obtain⟨s,tm,e⟩:=h.Cz;exact eJ e
 have abr:c1<w.heap.size:=by obtain⟨s,tm,e⟩:=h.Cw;exact eJ e
 have xO:∀c,x.O c->c<w.heap.size/\c≠c0/\c≠c1:=fun c hc=>h.geo.lt x hx c (.inr hc);have hrel:∀K:Nat->Prop,(∀c,K c->c<w.heap.size/\¬x.O c)->iO K w w2:=fun K hK=>⟨hgrow,fun c hc=>xp.keep c (hK c hc).1 (hK c hc).2⟩
 have TB:∀c,own x.O w w2 c->c<w2.heap.size:=fun c hc=>by
  rcases hc with hc|hc
  .have:=(xO c hc).1;omega
  exact hc.2
 have Zu:∀z∈l1++l2,iO (fun c=>z.S c\/z.O c) w w2:=fun z hz=>hrel _ fun c hc=>by
  refine⟨(h.geo.lt z (bS hz) c hc).1,fun ho=>?_⟩;have:=h.geo.ww x hx z (bS hz) (fun e=>hne z hz e.symm) c ho;exact hc.elim this.1 this.2
 have ch:∀c,c<w.heap.size->(∀c',x.O c'->c'≠c)->Chan c w->Chan c w2:=fun c hcl hno ⟨s,tm,e⟩=>⟨s,tm,by rw[xp.keep c hcl (fun ho=>hno c ho rfl)];exact e⟩
 have hS:∀c,SL (l1++x::l2) x.id c->x.S c:=fun c ⟨y,hy,T9,hs⟩=>by
  have:=KX h.nodup y hy x hx T9;subst this;exact hs
 have hO:∀c,OL (l1++x::l2) x.id c->x.O c:=fun c ⟨y,hy,T9,hs⟩=>by
  have:=KX h.nodup y hy x hx T9;subst this;exact hs
 refine⟨⟨?_,?_,?_,?_,?_,?_,?_,?_,?_,?_,h.ne,h.wk0,h.st0⟩,hrel _ fun c hc=>⟨(h.geo.Jl c hc).1,fun ho=>hc.elim (h.geo.wm x hx c ho) fun h0=>(h.geo.mw x hx c h0).2 ho⟩⟩
 .have:x.id≠0:=by have:=Hx.2;omega
  rw[aB this];exact h.zero
 .intro y hy;rcases gD.1 hy with rfl|⟨z,hz,rfl⟩
  .exact⟨bg hlt,Hx.2⟩
  have hs:=h.slot z (bS hz);refine⟨?_,hs.2⟩;show(gs.setIfInBounds x.id g2)[z.id]?=_;rw[aB (fun e=>hne z hz e.symm)];exact hs.1
 .intro y hy;rcases gD.1 hy with rfl|⟨z,hz,rfl⟩
  .exact⟨.run hp,rfl⟩
  have hs:=h.ws z (bS hz);exact⟨hs.1.rely (by rw[hs.2];exact Zu z hz),rfl⟩
 .rw[PE hid];exact h.nodup
 .intro i g hi hg ha;have ha':¬act (l1++x::l2) i:=fun a=>ha ((Dt hid).2 a);have hix:x.id≠i:=fun e=>ha' ⟨x,hx,e⟩;rw[aB hix] at hg;rw[Deaf_other t hix _ (fun op hop=>by obtain⟨e,_,rfl⟩:=BF hop;rfl)];exact h.old i g hi hg ha'
 .intro j hj;have hj':gs.size<=j:=by simpa using hj
  rw[Deaf_other t (g':=x.id) oN _ (fun op hop=>by obtain⟨e,_,rfl⟩:=BF hop;rfl)];exact h.above j hj'
 .have Xr:=h.pt.appW (k:=x.id) ⟨x,hx,rfl⟩ (W:=own x.O w w2) hgrow (u:=iC x.id fn pos es)
   (Ek (fun e he=>(xp.evs e he).mono (fun c hc=>hc.imp (fun hs=>⟨x,hx,rfl,hs⟩) id) fun c hc=>hc) fun c hc=>by
    rcases hc with hc|hc
    .have:=(h.geo.lt x hx c (.inl (hS c hc))).1;omega
    exact TB c hc)
   (fun c hc=>hc.imp (fun ho=>⟨x,hx,rfl,ho⟩) fun hn=>hn.1) (fun c hc=>.inl (hO c hc))
   (fun c hc hs=>by
    rcases hc with hc|hc
    .exact h.geo.dj x hx c (hS c hs) hc
    have:=(h.geo.lt x hx c (.inl (hS c hs))).1;omega)
   (fun g hg Di c hc=>by
    have lt':∀y∈l1++x::l2,y.id=g->¬(y.S c\/y.O c):=fun y hy Xi hyc=>by
     rcases hc with hc|hc
     .have:=h.geo.ww x hx y hy (fun e=>Di (Xi.symm.trans e.symm)) c hc;exact hyc.elim this.1 this.2
     have:=(h.geo.lt y hy c hyc).1;omega
    exact⟨fun⟨y,hy,Xi,hs⟩=>lt' y hy Xi (.inl hs),fun⟨y,hy,Xi,hs⟩=>lt' y hy Xi (.inr hs)⟩)
   (fun g hg Di c hc ⟨y,hy,Xi,ho⟩=>(h.geo.ww y hy x hx (fun e=>Di (Xi.symm.trans e)) c ho).1 (hS c hc))
  refine Xr.congr (fun g=>Dt hid) (fun g hg c=>?_) fun g hg c=>?_
  .constructor
   .rintro⟨y,hy,rfl,hs⟩;rcases gD.1 hy with rfl|⟨z,hz,rfl⟩
    .exact⟨x,hx,rfl,hs⟩
    exact⟨z,bS hz,rfl,hs⟩
   rintro⟨y,hy,rfl,hs⟩;rcases m_ hy with rfl|hz
   .exact⟨_,gD.2 (.inl rfl),rfl,hs⟩
   exact⟨y.at w2,gD.2 (.inr ⟨y,hz,rfl⟩),rfl,hs⟩
  by_cases e:g=x.id
  .subst e;simp only[if_true];constructor
   .rintro⟨y,hy,T9,hs⟩;rcases gD.1 hy with rfl|⟨z,hz,rfl⟩
    .exact hs
    exact absurd T9 (hne z hz)
   intro hs;exact⟨_,gD.2 (.inl rfl),rfl,hs⟩
  simp only[e,if_false];constructor
  .rintro⟨y,hy,rfl,hs⟩;rcases gD.1 hy with rfl|⟨z,hz,rfl⟩
   .exact absurd rfl e
   exact⟨z,bS hz,rfl,hs⟩
  rintro⟨y,hy,rfl,hs⟩;rcases m_ hy with rfl|hz
  .exact absurd rfl e
  exact⟨y.at w2,gD.2 (.inr ⟨y,hz,rfl⟩),rfl,hs⟩
 .have lift:∀ {Q:X->Prop},Q { x with O:=own x.O w w2,g:=g2,w:=w2 }->(∀z∈l1++l2,Q (z.at w2))->∀y∈l1.map (X.at w2)++{ x with O:=own x.O w w2,g:=g2,w:=w2 }::l2.map (X.at w2),Q y:=fun h1 h2 y hy=>by
   rcases gD.1 hy with rfl|⟨z,hz,rfl⟩
   .exact h1
   exact h2 z hz
  refine⟨fun c hc=>⟨by have:=(h.geo.Jl c hc).1;omega,(h.geo.Jl c hc).2⟩,h.geo.dj0,lift (fun c hc=>?_) fun z hz c hc=>⟨by have:=(h.geo.lt z (bS hz) c hc).1;omega,(h.geo.lt z (bS hz) c hc).2⟩,
   lift (fun c hs ho=>?_) fun z hz=>h.geo.dj z (bS hz),lift (fun c h0=>⟨(h.geo.mw x hx c h0).1,fun ho=>?_⟩) fun z hz=>h.geo.mw z (bS hz),lift (fun c ho hs=>?_) fun z hz=>h.geo.wm z (bS hz),
   lift (lift (fun e=>absurd rfl e) fun z hz he c ho=>?_) fun z hz=>lift (fun he c ho=>?_) fun z' hz' he c ho=>h.geo.ww z (bS hz) z' (bS hz') he c ho⟩
  .rcases hc with hc|hc|hc
   .have:=h.geo.lt x hx c (.inl hc);exact⟨oN,this.2⟩
   .have:=xO c hc;exact⟨oN,this.2⟩
   exact⟨hc.2,oN,oN⟩
  .rcases ho with ho|ho
   .exact h.geo.dj x hx c hs ho
   have:=(h.geo.lt x hx c (.inl hs)).1;omega
  .rcases ho with ho|ho
   .exact(h.geo.mw x hx c h0).2 ho
   have:=(h.geo.Jl c (.inr h0)).1;omega
  .rcases ho with ho|ho
   .exact h.geo.wm x hx c ho hs
   have:=(h.geo.Jl c (.inl hs)).1;omega
  .rcases ho with ho|ho
   .exact h.geo.ww x hx z (bS hz) he c ho
   have hz':=h.geo.lt z (bS hz) c;exact⟨fun hs=>by have:=(hz' (.inl hs)).1;omega,fun hs=>by have:=(hz' (.inr hs)).1;omega⟩
  have:=h.geo.ww z (bS hz) x hx he c ho;refine⟨this.1,fun hw=>hw.elim this.2 fun hn=>?_⟩;have:=(h.geo.lt z (bS hz) c (.inr ho)).1;omega
 .exact ch c0 abt (fun c' hc'=>(xO c' hc').2.1) h.Cz
 exact ch c1 abr (fun c' hc'=>(xO c' hc').2.2) h.Cw
theorem Inv.replace(h:Inv P c0 c1 S0 O0 gm (l1++x::l2) gs w t q){x2:X}(hid:x2.id=x.id)(Rz:x2.S=x.S)(V3:x2.O=x.O)(Kb:WS P c0 c1 x2){w':ak}(hw2:x2.w=w'){gm':aC}{gs':Array aC}
  (g0:gs'[0]?=some gm') (gx:gs'[x.id]?=some x2.g) (gr:∀i,i≠0->i≠x.id->gs'[i]?=gs[i]?) (gz:gs'.size=gs.size)
  (hsz:w'.heap.size=w.heap.size) (Ur:∀c,c≠c0->c≠c1->w'.heap[c]?=w.heap[c]?) (Cz:Chan c0 w') (Cw:Chan c1 w') {t':Trace} (Xr:PT (act (l1++x::l2)) (SL (l1++x::l2)) (OL (l1++x::l2)) w.heap.size t')
  (N3:∀i,Deaf t' i=Deaf t i) (Xl:∀g g' w',Chan c0 w'->Chan c1 w'->Conc.woken P g g' w' gm'=gm') (hst:gm'.status=.running\/gm'.status=.blocked) :
  Inv P c0 c1 S0 O0 gm' (l1.map (X.at w')++x2::l2.map (X.at w')) gs' w' t' q/\iO (fun c=>S0 c\/O0 c) w w':=by
 have hx:=nD (x:=x) (l1:=l1) (l2:=l2);have hne:=od h.nodup;have Hx:=h.slot x hx;have hrel:∀K:Nat->Prop,(∀c,K c->c≠c0/\c≠c1)->iO K w w':=fun K hK=>⟨oN,fun c hc=>Ur c (hK c hc).1 (hK c hc).2⟩
 refine⟨⟨g0,?_,?_,?_,?_,?_,?_,?_,Cz,Cw,h.ne,Xl,hst⟩,hrel _ fun c hc=>(h.geo.Jl c hc).2⟩
 .intro y hy;rcases gD.1 hy with rfl|⟨z,hz,rfl⟩
  .exact⟨by rw[hid];exact gx,by rw[hid];exact Hx.2⟩
  have hs:=h.slot z (bS hz);refine⟨?_,hs.2⟩;show gs'[z.id]?=_;rw[gr z.id (by have:=hs.2;omega) (hne z hz)];exact hs.1
 .intro y hy;rcases gD.1 hy with rfl|⟨z,hz,rfl⟩
  .exact⟨Kb,hw2⟩
  have hs:=h.ws z (bS hz);exact⟨hs.1.rely (by rw[hs.2];exact hrel _ fun c hc=>(h.geo.lt z (bS hz) c hc).2),rfl⟩
 .rw[PE hid];exact h.nodup
 .intro i g hi hg ha;have ha':¬act (l1++x::l2) i:=fun a=>ha ((Dt hid).2 a);have hix:i≠x.id:=fun e=>ha' ⟨x,hx,e.symm⟩;rw[gr i oN hix] at hg;rw[N3];exact h.old i g hi hg ha'
 .intro j hj;rw[N3];exact h.above j oN
 .rw[hsz];refine Xr.congr (fun g=>Dt hid) (fun g hg c=>?_) fun g hg c=>?_
  .constructor
   .rintro⟨y,hy,rfl,hs⟩;rcases gD.1 hy with rfl|⟨z,hz,rfl⟩
    .exact⟨x,hx,hid.symm,by rw[<-Rz];exact hs⟩
    exact⟨z,bS hz,rfl,hs⟩
   rintro⟨y,hy,rfl,hs⟩;rcases m_ hy with rfl|hz
   .exact⟨_,gD.2 (.inl rfl),hid,by rw[Rz];exact hs⟩
   exact⟨y.at w',gD.2 (.inr ⟨y,hz,rfl⟩),rfl,hs⟩
  constructor
  .rintro⟨y,hy,rfl,hs⟩;rcases gD.1 hy with rfl|⟨z,hz,rfl⟩
   .exact⟨x,hx,hid.symm,by rw[<-V3];exact hs⟩
   exact⟨z,bS hz,rfl,hs⟩
  rintro⟨y,hy,rfl,hs⟩;rcases m_ hy with rfl|hz
  .exact⟨_,gD.2 (.inl rfl),hid,by rw[V3];exact hs⟩
  exact⟨y.at w',gD.2 (.inr ⟨y,hz,rfl⟩),rfl,hs⟩
 rw[hsz]
 have lift:∀ {Q:X->Prop},Q x2->(∀z∈l1++l2,Q (z.at w'))->∀y∈l1.map (X.at w')++x2::l2.map (X.at w'),Q y:=fun h1 h2 y hy=>by
  rcases gD.1 hy with rfl|⟨z,hz,rfl⟩
  .exact h1
  exact h2 z hz
 refine⟨h.geo.Jl,h.geo.dj0,lift (by rw[Rz,V3];exact h.geo.lt x hx) fun z hz=>h.geo.lt z (bS hz),lift (by rw[Rz,V3];exact h.geo.dj x hx) fun z hz=>h.geo.dj z (bS hz),
  lift (by rw[Rz,V3];exact h.geo.mw x hx) fun z hz=>h.geo.mw z (bS hz),lift (by rw[V3];exact h.geo.wm x hx) fun z hz=>h.geo.wm z (bS hz),
  lift (lift (fun e=>absurd rfl e) fun z hz he=>?_) fun z hz=>lift (fun he=>?_) fun z' hz' he=>h.geo.ww z (bS hz) z' (bS hz') he⟩
 .rw[V3];rw[hid] at he;exact h.geo.ww x hx z (bS hz) he
 rw[V3,Rz];rw[hid] at he;exact h.geo.ww z (bS hz) x hx he
theorem Inv.cut(h:Inv P c0 c1 S0 O0 gm (l1++x::l2) gs w t q){g2:aC}{n:Nat}(hq:QuitsD P n 0 g2){w':ak}{gm':aC}{gs':Array aC}
  (g0:gs'[0]?=some gm') (gx:gs'[x.id]?=some g2) (gr:∀i,i≠0->i≠x.id->gs'[i]?=gs[i]?) (gz:gs'.size=gs.size)
  (hsz:w'.heap.size=w.heap.size) (Ur:∀c,c≠c0->c≠c1->w'.heap[c]?=w.heap[c]?) (Cz:Chan c0 w') (Cw:Chan c1 w') {t':Trace} (Xr:PT (fun g=>act (l1++x::l2) g/\g≠x.id) (SL (l1++x::l2)) (OL (l1++x::l2)) w.heap.size t')
  (N3:∀i,Deaf t' i=Deaf t i) (Xl:∀g g' w',Chan c0 w'->Chan c1 w'->Conc.woken P g g' w' gm'=gm') (hst:gm'.status=.running\/gm'.status=.blocked) :
  Inv P c0 c1 S0 O0 gm' (l1.map (X.at w')++l2.map (X.at w')) gs' w' t' (upd q x.id n)/\iO (fun c=>S0 c\/O0 c) w w':=by
 have hx:=nD (x:=x) (l1:=l1) (l2:=l2);have hne:=od h.nodup;have Hx:=h.slot x hx;have hrel:∀K:Nat->Prop,(∀c,K c->c≠c0/\c≠c1)->iO K w w':=fun K hK=>⟨oN,fun c hc=>Ur c (hK c hc).1 (hK c hc).2⟩
 have Rx:∀g,act (l1.map (X.at w')++l2.map (X.at w')) g↔act (l1++x::l2) g/\g≠x.id:=by
  intro g;constructor
  .rintro⟨y,hy,rfl⟩;obtain⟨z,hz,rfl⟩:=pJ.1 hy;exact⟨⟨z,bS hz,rfl⟩,hne z hz⟩
  rintro⟨⟨y,hy,rfl⟩,hn⟩;rcases m_ hy with rfl|hz
  .exact absurd rfl hn
  exact⟨y.at w',pJ.2 ⟨y,hz,rfl⟩,rfl⟩
 refine⟨⟨g0,?_,?_,?_,?_,?_,?_,?_,Cz,Cw,h.ne,Xl,hst⟩,hrel _ fun c hc=>(h.geo.Jl c hc).2⟩
 .intro y hy;obtain⟨z,hz,rfl⟩:=pJ.1 hy;have hs:=h.slot z (bS hz);refine⟨?_,hs.2⟩;show gs'[z.id]?=_;rw[gr z.id (by have:=hs.2;omega) (hne z hz)];exact hs.1
 .intro y hy;obtain⟨z,hz,rfl⟩:=pJ.1 hy;have hs:=h.ws z (bS hz);exact⟨hs.1.rely (by rw[hs.2];exact hrel _ fun c hc=>(h.geo.lt z (bS hz) c hc).2),rfl⟩
 .have e:(l1.map (X.at w')++l2.map (X.at w')).map X.id=l1.map X.id++l2.map X.id:=by simp only[eG,List.map_map];rfl
  rw[e];have:=h.nodup;simp only[eG,cP] at this;exact this.sublist (List.Sublist.append_left (List.sublist_cons_self _ _) _)
 .intro i g hi hg ha
  by_cases hix:i=x.id
  .subst hix;rw[gx] at hg;cases hg;rw[upd_same,N3,h.pt.vG x.id ⟨x,hx,rfl⟩];exact hq
  have ha':¬act (l1++x::l2) i:=fun a=>ha ((Rx i).2 ⟨a,hix⟩);rw[gr i oN hix] at hg;rw[N3,upd_ne q n hix];exact h.old i g hi hg ha'
 .intro j hj;rw[N3];exact h.above j oN
 .rw[hsz];refine Xr.congr Rx (fun g hg c=>?_) fun g hg c=>?_
  .constructor
   .rintro⟨y,hy,rfl,hs⟩;obtain⟨z,hz,rfl⟩:=pJ.1 hy;exact⟨z,bS hz,rfl,hs⟩
   rintro⟨y,hy,rfl,hs⟩;rcases m_ hy with rfl|hz
   .exact absurd rfl hg.2
   exact⟨y.at w',pJ.2 ⟨y,hz,rfl⟩,rfl,hs⟩
  constructor
  .rintro⟨y,hy,rfl,hs⟩;obtain⟨z,hz,rfl⟩:=pJ.1 hy;exact⟨z,bS hz,rfl,hs⟩
  rintro⟨y,hy,rfl,hs⟩;rcases m_ hy with rfl|hz
  .exact absurd rfl hg.2
  exact⟨y.at w',pJ.2 ⟨y,hz,rfl⟩,rfl,hs⟩
 rw[hsz]
 have lift:∀ {Q:X->Prop},(∀z∈l1++l2,Q (z.at w'))->∀y∈l1.map (X.at w')++l2.map (X.at w'),Q y:=fun h2 y hy=>by
  obtain⟨z,hz,rfl⟩:=pJ.1 hy;exact h2 z hz
 exact⟨h.geo.Jl,h.geo.dj0,lift fun z hz=>h.geo.lt z (bS hz),lift fun z hz=>h.geo.dj z (bS hz),lift fun z hz=>h.geo.mw z (bS hz),lift fun z hz=>h.geo.wm z (bS hz),
  lift fun z hz=>lift fun z' hz' he=>h.geo.ww z (bS hz) z' (bS hz') he⟩
theorem PT.Sr{A:Nat->Prop}{S O:Nat->Nat->Prop}{B k:Nat}(h:PT A S O B t)(hk:¬A k)(hk0:k≠0)(hu:∀op∈u,op.g=k/\op.act.touch?=none/\op.act.low B):PT A S O B (t++u):=by
 have hn:=fun op hop=>(hu op hop).2.1;refine⟨Cb h.clean hn,fun i a c ha hc=>?_,fun g hg i a c ha hc hs hw=>?_,fun g hg i a c ha hc ho=>?_,fun i g h1 h2 h3=>?_,?_,fun g hg=>?_,seen_app h.seen fun op hop=>(hu op hop).2.2,h.pos⟩
 .obtain⟨hi,ha'⟩:=fj hn ha;rcases h.known i a c ha' hc with hk|⟨g,hg,NW,Lr⟩
  .exact .inl (hk.app u)
  exact .inr ⟨g,hg,g?_app NW,Lr⟩
 .obtain⟨hi,ha'⟩:=fj hn ha;exact(h.wk g hg i a c ha' hc hs hw).app u
 .obtain⟨hi,ha'⟩:=fj hn ha;exact g?_app (h.ow g hg i a c ha' hc ho)
 .obtain⟨x,c,hx,_⟩:=zU h3;obtain⟨hi,_⟩:=fj hn hx;have NW:t.g? i=some g:=by rw[<-g?_old (u:=u) hi];exact h1
  rcases h.over i g NW h2 (rI hi h3) with⟨j,hj,hb⟩|NY
  .exact .inl ⟨j,g?_app hj,hb_app u hb⟩
  exact .inr NY
 .rw[Deaf_other t hk0 u fun op hop=>(hu op hop).1];exact h.hears
 rw[Deaf_other t (g:=g) (g':=k) (fun e=>hk (by subst e;exact hg)) u fun op hop=>(hu op hop).1];exact h.vG g hg
theorem Inv.slip(h:Inv P c0 c1 S0 O0 gm L gs w t q){i:Nat}{y:aC}(hi:gs[i]?=some y)(jS:0<i)(hrun:y.status=.running)(ha:¬act L i)(sl:Option (Nat × Nat)) :
  ∃gs' aM q',runT P (rh gs w sl) i=(.next (rh gs' w sl),aM)/\Inv P c0 c1 S0 O0 gm L gs' w (t++aM) q'/\gs'.size=gs.size/\sumTo gs.size q'<sumTo gs.size q:=by
 have hq:=h.old i y jS hi ha;have hi0:(i==0)=false:=sP;have hlt:i<gs.size:=(ah.1 hi).1;cases Z_:q i with
 |zero=>rw[Z_] at hq;rw[hq.1] at hrun;cases hrun
 |succ k=>
  rw[Z_] at hq;rcases hq with⟨hf,_⟩|⟨_,g',es,hm,Z5,hq'⟩
  .rw[hf] at hrun;cases hrun
  have jR:=C_ (P:=P) (sl:=sl) (i:=i) hi (by rw[hi0];exact Z5 w);rw[h.woken h.Cz h.Cw] at jR
  have agx:sumTo gs.size (upd q i k)+(k+1)=sumTo gs.size q+k:=by
   have:=sumTo_upd q k id hlt;simpa [Z_] using this
  have Gn:∀op∈iC i y.frame.fn y.frame.place es,op.g=i/\op.act.touch?=none/\op.act.low w.heap.size:=fun op hop=>by
   obtain⟨e,he,rfl⟩:=BF hop;exact⟨rfl,touch_mute (hm e he),low_mute (hm e he) _⟩
  refine⟨_,_,upd q i k,jR,⟨?_,fun x hx=>?_,h.ws,h.nodup,fun j z hj hz hna=>?_,fun j hj=>?_,h.pt.Sr ha oN Gn,h.geo,h.Cz,h.Cw,h.ne,h.wk0,h.st0⟩,sN,oN⟩
  .rw[aB oN];exact h.zero
  .have hne:i≠x.id:=fun e=>ha ⟨x,hx,e.symm⟩;rw[aB hne];exact h.slot x hx
  .by_cases XA:i=j
   .subst XA;rw[bg hlt] at hz;obtain rfl:=a7 hz;rw[upd_same,Deaf_own];exact hq'
   rw[aB XA] at hz;rw[upd_ne q k (xH XA),Deaf_other t XA _ (fun op hop=>(Gn op hop).1)];exact h.old j z hj hz hna
  have hj':gs.size<=j:=by simpa using hj
  rw[Deaf_other t (g':=i) oN _ (fun op hop=>(Gn op hop).1)];exact h.above j hj'
theorem Inv.ZP(h:Inv P c0 c1 S0 O0 gm L gs w t q){g2:aC}{w2:ak}{es:Array gq}(xp:J8 S0 O0 w w2 es)(hrun:g2.status=.running)(fn:dU)(pos:String) :
  Inv P c0 c1 S0 (own O0 w w2) g2 (L.map (X.at w2)) (gs.setIfInBounds 0 g2) w2 (t++iC 0 fn pos es) q:=by
 have hgrow:=xp.grow;have NV:0<gs.size:=h.size;have abt:c0<w.heap.size:=by obtain⟨s,tm,e⟩:=h.Cz;exact eJ e
 have abr:c1<w.heap.size:=by obtain⟨s,tm,e⟩:=h.Cw;exact eJ e
 have TB:∀c,own O0 w w2 c->c<w2.heap.size:=fun c hc=>by
  rcases hc with hc|hc
  .have:=(h.geo.Jl c (.inr hc)).1;omega
  exact hc.2
 have Zu:∀z∈L,iO (fun c=>z.S c\/z.O c) w w2:=fun z hz=>⟨hgrow,fun c hc=>xp.keep c (h.geo.lt z hz c hc).1 fun ho=>by
  have:=h.geo.mw z hz c ho;exact hc.elim this.1 this.2⟩
 have ch:∀c,c<w.heap.size->(∀c',O0 c'->c'≠c)->Chan c w->Chan c w2:=fun c hcl hno ⟨s,tm,e⟩=>⟨s,tm,by rw[xp.keep c hcl (fun ho=>hno c ho rfl)];exact e⟩
 have Gn:=Ek (k:=0) (fn:=fn) (pos:=pos) xp.evs (B:=w2.heap.size) fun c hc=>by
  rcases hc with hc|hc
  .have:=(h.geo.Jl c (.inl hc)).1;omega
  exact TB c hc
 have Xr:=h.pt.app0 hgrow Gn
  (fun g ⟨y0,SD,agi⟩ c hc ⟨y,hy,Xi,ho⟩=>by
   rcases hc with hc|hc|hc
   .exact h.geo.wm y hy c ho hc
   .exact(h.geo.mw y hy c hc).2 ho
   have:=(h.geo.lt y hy c (.inr ho)).1;omega)
  (fun g ⟨y0,SD,agi⟩ c hc ⟨y,hy,Xi,hs⟩=>by
   rcases hc with hc|hc
   .exact(h.geo.mw y hy c hc).1 hs
   have:=(h.geo.lt y hy c (.inl hs)).1;omega)
 have N3:∀i,Deaf (t++iC 0 fn pos es) i=Deaf t i:=fun i=>iw _ _ _ fun op hop=>(Gn op hop).2.2.1;refine⟨?_,fun y hy=>?_,fun y hy=>?_,by rw[T8];exact h.nodup,fun i g hi hg ha=>?_,fun j hj=>?_,?_,?_,ch c0 abt (fun c' hc'=>(h.geo.Jl c' (.inr hc')).2.1) h.Cz,ch c1 abr (fun c' hc'=>(h.geo.Jl c' (.inr hc')).2.2) h.Cw,h.ne,fun g g' w' _ _=>woken_run hrun,.inl hrun⟩
 .rw[bg NV]
 .obtain⟨x,hx,rfl⟩:=og.1 hy;have hs:=h.slot x hx;refine⟨?_,hs.2⟩;show(gs.setIfInBounds 0 g2)[x.id]?=_;rw[aB (by have:=hs.2;omega)];exact hs.1
 .obtain⟨x,hx,rfl⟩:=og.1 hy;refine⟨(h.ws x hx).1.rely ?_,rfl⟩;rw[(h.ws x hx).2];exact Zu x hx
 .rw[aB oN] at hg;rw[N3];exact h.old i g hi hg fun a=>ha (J1.2 a)
 .rw[N3];exact h.above j (by simpa using hj)
 .exact Xr.congr (fun g=>J1) (fun g _ c=>Zi) fun g _ c=>Zk
 have g1:=h.geo.at (w':=w2) hgrow;refine⟨fun c hc=>?_,fun c hs ho=>?_,g1.lt,g1.dj,fun x hx c ho=>?_,g1.wm,g1.ww⟩
 .rcases hc with hc|hc|hc
  .exact g1.Jl c (.inl hc)
  .exact g1.Jl c (.inr hc)
  exact⟨hc.2,oN,oN⟩
 .rcases ho with ho|ho
  .exact h.geo.dj0 c hs ho
  have:=(h.geo.Jl c (.inl hs)).1;omega
 rcases ho with ho|ho
 .exact g1.mw x hx c ho
 obtain⟨z,hz,rfl⟩:=og.1 hx;exact⟨fun hs=>by have:=(h.geo.lt z hz c (.inl hs)).1;omega,fun hs=>by have:=(h.geo.lt z hz c (.inr hs)).1;omega⟩
theorem Inv.spawn(h:Inv P c0 c1 S0 O0 gm L gs w t q){g' child:aC}(hrun:g'.status=.running){Sk S' O':Nat->Prop}{b:Bool}{p:aj}(hSk:∀c,Sk c->S0 c\/O0 c)(M0:∀c,S' c->S0 c\/O0 c)(hO':∀c,O' c->O0 c/\¬Sk c/\¬S' c)(hp:gU P c0 c1 Sk p b (fun _=>False) child w){y z:MemOp}
  (hy:y.g=0/\y.act=.go gs.size) (hz:z.g=gs.size/\z.act=.start) :
  Inv P c0 c1 S' O' g' (L++[⟨gs.size,Sk,p,b,fun _=>False,child,w⟩]) ((gs.setIfInBounds 0 g').push child) w (t++#[y,z]) q:=by
 have NV:0<gs.size:=h.size;have LA:∀x∈L,x.id<gs.size:=fun x hx=>(ah.1 (h.slot x hx).1).1;have hna:¬act L gs.size:=fun⟨x,hx,e⟩=>by have:=LA x hx;omega
 have hw:∀op∈#[y,z],ou op:=fun op hop=>by
  simp only[eR,cy,gJ,or_false] at hop;rcases hop with rfl|rfl
  .exact⟨by rw[hy.2];simp,by rw[hy.2];simp⟩
  exact⟨by rw[hz.2];simp,by rw[hz.2];simp⟩
 have N3:∀i,Deaf (t++#[y,z]) i=Deaf t i:=fun i=>iw _ _ _ hw;have hmem:∀ {x:X},x∈L++[⟨gs.size,Sk,p,b,fun _=>False,child,w⟩]↔x∈L\/x=⟨gs.size,Sk,p,b,fun _=>False,child,w⟩:=by intro x;simp
 have Xr:=h.pt.spawn (aJ _) hna oN (h.above _ (aJ _)) hy hz (Sk:=Sk) fun g ⟨x0,hx0,hg0⟩ c hc ⟨x,hx,Gm,ho⟩=>by
  rcases hSk c hc with hs|hs
  .exact h.geo.wm x hx c ho hs
  exact(h.geo.mw x hx c hs).2 ho
 have ad6:∀c,Sk c->c<w.heap.size/\c≠c0/\c≠c1:=fun c hc=>h.geo.Jl c (hSk c hc);refine⟨?_,fun x hx=>?_,fun x hx=>?_,?_,fun i g hi hg ha=>?_,fun j hj=>?_,?_,?_,h.Cz,h.Cw,h.ne,fun g g' w' _ _=>woken_run hrun,.inl hrun⟩
 .rw[Array.getElem?_push_lt (by simpa using NV)];simp
 .rcases hmem.1 hx with hx|rfl
  .have hs:=h.slot x hx;have:=LA x hx;refine⟨?_,hs.2⟩;rw[lD];rw[if_neg sP,aB (by have:=hs.2;omega)];exact hs.1
  refine⟨?_,NV⟩;rw[lD];simp
 .rcases hmem.1 hx with hx|rfl
  .exact h.ws x hx
  exact⟨.run hp,rfl⟩
 .simp only[eG,cP,fW];rw[List.nodup_append];refine⟨h.nodup,sN,fun a ha b hb e=>?_⟩;obtain⟨x,hx,rfl⟩:=dm.1 ha;simp only[kh] at hb;have:=LA x hx;omega
 .have hns:i≠gs.size:=fun e=>ha ⟨_,hmem.2 (.inr rfl),e.symm⟩;rw[lD,if_neg sP,aB oN] at hg;rw[N3];exact h.old i g hi hg fun⟨x,hx,e⟩=>ha ⟨x,hmem.2 (.inl hx),e⟩
 .rw[N3];exact h.above j (by simp at hj;omega)
 .refine Xr.congr (fun g=>?_) (fun g hg c=>?_) fun g hg c=>?_
  .constructor
   .rintro⟨x,hx,rfl⟩;rcases hmem.1 hx with hx|rfl
    .exact .inl ⟨x,hx,rfl⟩
    exact .inr rfl
   rintro(⟨x,hx,rfl⟩|rfl)
   .exact⟨x,hmem.2 (.inl hx),rfl⟩
   exact⟨_,hmem.2 (.inr rfl),rfl⟩
  .by_cases e:g=gs.size
   .subst e;simp only[if_true];constructor
    .rintro⟨x,hx,Rg,hs⟩;rcases hmem.1 hx with hx|rfl
     .have:=LA x hx;omega
     exact hs
    intro hs;exact⟨_,hmem.2 (.inr rfl),rfl,hs⟩
   simp only[e,if_false];constructor
   .rintro⟨x,hx,rfl,hs⟩;rcases hmem.1 hx with hx|rfl
    .exact⟨x,hx,rfl,hs⟩
    exact absurd rfl e
   rintro⟨x,hx,rfl,hs⟩;exact⟨x,hmem.2 (.inl hx),rfl,hs⟩
  by_cases e:g=gs.size
  .subst e;simp only[if_true];constructor
   .rintro⟨x,hx,Rg,hs⟩;rcases hmem.1 hx with hx|rfl
    .have:=LA x hx;omega
    exact hs
   intro hs;exact hs.elim
  simp only[e,if_false];constructor
  .rintro⟨x,hx,rfl,hs⟩;rcases hmem.1 hx with hx|rfl
   .exact⟨x,hx,rfl,hs⟩
   exact absurd rfl e
  rintro⟨x,hx,rfl,hs⟩;exact⟨x,hmem.2 (.inl hx),rfl,hs⟩
 have lift:∀ {Q:X->Prop},(∀x∈L,Q x)->Q ⟨gs.size,Sk,p,b,fun _=>False,child,w⟩->∀x∈L++[⟨gs.size,Sk,p,b,fun _=>False,child,w⟩],Q x:=fun h1 h2 x hx=>by
  rcases hmem.1 hx with hx|rfl
  .exact h1 x hx
  exact h2
 refine⟨fun c hc=>h.geo.Jl c (hc.elim (M0 c) fun h=>.inr (hO' c h).1),fun c hs ho=>(hO' c ho).2.2 hs,lift h.geo.lt fun c hc=>ad6 c (by simpa using hc),lift h.geo.dj fun c _ ho=>ho,lift (fun x hx c ho=>h.geo.mw x hx c (hO' c ho).1) fun c ho=>⟨(hO' c ho).2.1,fun hf=>hf⟩,
  lift (fun x hx c ho hs=>?_) fun c ho=>ho.elim,lift (fun x hx=>lift (fun x' hx' he c ho=>h.geo.ww x hx x' hx' he c ho) fun he c ho=>⟨fun hs=>?_,fun hf=>hf⟩) (lift (fun x hx he c ho=>ho.elim) fun he c ho=>ho.elim)⟩
 .rcases M0 c hs with hs|hs
  .exact h.geo.wm x hx c ho hs
  exact(h.geo.mw x hx c hs).2 ho
 rcases hSk c hs with hs|hs
 .exact h.geo.wm x hx c ho hs
 exact(h.geo.mw x hx c hs).2 ho
end
section
variable{α:Type}{D E:α->α->Prop}
theorem oZ.Dg{f:α->α}:∀l:List α,(∀x∈l,E (f x) x)->oZ E (l.map f) l
 |[],_=>.nil
 |x::l,h=>.cons (h x sN) (oZ.Dg l fun y hy=>h y (by simp[hy]))
theorem LT.TQ{f:α->α}{x x':α}(hd:D x' x){l2:List α}(h2:∀z∈l2,E (f z) z):∀ {l1:List α},(∀z∈l1,E (f z) z)->LT D E (l1.map f++x'::l2.map f) (l1++x::l2)
 |[],_=>.head hd (.Dg l2 h2)
 |y::l,h=>.tail (h y sN) (LT.TQ hd h2 fun z hz=>h z (by simp[hz]))
end
def AE(w:ak):(Nat->Question->Nat) × Os × Array (Nat × ByteArray):=(w.tape,w.os,w.output)
def J8.AE{S O:Nat->Prop}{w w':ak}{es:Array gq}(h:J8 S O w w' es):Lag.AE w'=Lag.AE w:=by
 simp only[Lag.AE,h.tape,h.os,h.out]
def Goal(P:aL)(Fin:List aj->List aj->(Nat->Prop)->(Nat->Prop)->aC->ak->Prop)(gs:Array aC)(w:ak)(sl:Option (Nat × Nat))(t:Trace):Prop:=
 ∃N gs' g' w' sl' t' q' acc out S O,runNT P N (rh gs w sl) t=(.next (rh gs' w' sl'),t')/\Beside P gs' g' w' t' q'/\Fin acc out S O g' w'/\out.Perm acc/\AE w'=AE w/\w.heap.size<=w'.heap.size
def pend(L:List X):List Value:=(L.filter (·.b)).map (·.p)
structure Bv(L:List X)(f m:Nat)(acc out:List aj):Prop where
 m:L.length=m
 f:(pend L).length=f
 perm:(out++pend L).Perm acc
section
variable{P:aL}{c0 c1:Nat}{z0 z1:aj}{Fin:List aj->List aj->(Nat->Prop)->(Nat->Prop)->aC->ak->Prop}{S0 O0:Nat->Prop}{gm:aC}{L l1 l2:List X}{x x2:X}{gs gs':Array aC}{w w':ak}{t:Trace}{q:Nat->Nat}
 {sl sl':Option (Nat × Nat)} {f m:Nat} {acc out:List aj} {aM:Array MemOp}
theorem Goal.step(h:stepT P (rh gs w sl)=(.next (rh gs' w' sl'),aM))(ht:AE w'=AE w)(hs:w.heap.size<=w'.heap.size)(hg:Goal P Fin gs' w' sl' (t++aM)):Goal P Fin gs w sl t:=by
 obtain⟨N,gs2,g2,w2,Zs,t2,q2,acc,out,S,O,h1,h2,h3,h4,h5,h6⟩:=hg;exact⟨N+1,gs2,g2,w2,Zs,t2,q2,acc,out,S,O,by simp only[runNT,h];exact h1,h2,h3,h4,h5.trans ht,aG hs h6⟩
theorem qy(a b:List X):pend (a++b)=pend a++pend b:=by simp[pend]
theorem ry(a:List X):pend (a.map (X.at w))=pend a:=by
 induction a with
 |nil=>rfl
 |cons y a ih=>
  unfold pend at ih ⊢;simp only[cP,List.filter_cons];have e:(X.at w y).b=y.b:=rfl;rw[e];cases y.b
  .simpa using ih
  simp only[if_true,cP,ih];rfl
theorem qa(a:List X):pend (x::a)=(if x.b then[x.p] else[])++pend a:=by
 unfold pend;cases h:x.b<;>simp[List.filter_cons,h]
theorem WD:∀L:List X,(pend L).length<=L.length:=by
 intro L;unfold pend;rw[List.length_map];exact List.length_filter_le _ _
theorem Bv.mem(h:Bv (l1++x::l2) f m acc out)(hb:x.b=true):x.p∈acc:=by
 refine h.perm.mem_iff.1 ?_;simp[pend,hb]
theorem Bv.le(h:Bv L f m acc out):f<=m:=by rw[<-h.m,<-h.f];exact WD L
theorem Bv.at(h:Bv L f m acc out)(w:ak):Bv (L.map (X.at w)) f m acc out:=⟨by simpa using h.m,by rw[ry];exact h.f,by rw[ry];exact h.perm⟩
theorem Bv.mid(h:Bv (l1++x::l2) f m acc out)(hb:x2.b=x.b)(hp:x2.p=x.p)(w:ak):Bv (l1.map (X.at w)++x2::l2.map (X.at w)) f m acc out:=by
 have e:pend (l1.map (X.at w)++x2::l2.map (X.at w))=pend (l1++x::l2):=by
  rw[qy,qy,qa,qa,ry,ry,hb,hp]
 exact⟨by have:=h.m;simp at this ⊢;exact this,by rw[e];exact h.f,by rw[e];exact h.perm⟩
theorem Bv.found(h:Bv (l1++x::l2) f m acc out)(hb:x.b=true)(hb2:x2.b=false)(w:ak):∃f',f=f'+1/\Bv (l1.map (X.at w)++x2::l2.map (X.at w)) f' m acc (out++[x.p]):=by
 have e:pend (l1.map (X.at w)++x2::l2.map (X.at w))=pend l1++pend l2:=by
  rw[qy,qa,ry,ry,hb2];simp
 have e2:pend (l1++x::l2)=pend l1++x.p::pend l2:=by rw[qy,qa,hb];simp
 have hf:=h.f;rw[e2] at hf;simp only[List.length_append,List.length_cons] at hf;refine⟨(pend l1).length+(pend l2).length,oN,by have:=h.m;simp at this ⊢;exact this,by rw[e];simp,?_⟩;rw[e];refine List.Perm.trans ?_ h.perm;rw[e2];simp only[List.append_assoc];refine List.Perm.append_left out ?_;show(x.p::(pend l1++pend l2)).Perm _;exact List.perm_middle.symm
theorem Bv.last(h:Bv (l1++x::l2) f (m+1) acc out)(hb:x.b=false)(w:ak):Bv (l1.map (X.at w)++l2.map (X.at w)) f m acc out:=by
 have e:pend (l1.map (X.at w)++l2.map (X.at w))=pend (l1++x::l2):=by
  rw[qy,qy,qa,ry,ry,hb];simp
 exact⟨by have:=h.m;simp at this ⊢;omega,by rw[e];exact h.f,by rw[e];exact h.perm⟩
theorem Bv.more(h:Bv L f m acc out):Bv (L++[x]) (f+x.b.toNat) (m+1) (acc++if x.b then[x.p] else[]) out:=by
 have e:pend (L++[x])=pend L++(if x.b then[x.p] else[]):=by rw[qy,qa];simp[pend]
 refine⟨by have:=h.m;simp;exact this,?_,?_⟩
 .rw[e];have:=h.f;cases x.b<;>simp[this]
 rw[e,<-List.append_assoc];exact h.perm.append_right _
theorem Vo(h:WS P c0 c1 x):Acc (Dn P c0) x:=by
 cases h with
 |run h=>exact Bq P c0 c1 h x.id
 |@uv g hb ha hp he=>
  have h2:gU P c0 c1 x.S x.p true x.O g x.w:=.BN ha hp;have yg:=Bq P c0 c1 h2 x.id;refine yg.inv (.zg ha ?_);refine⟨x.w,.refl _ _,?_⟩;rw[<-he,<-hb];rfl
 |@uu g n hb ha hq he=>
  have h2:gU P c0 c1 x.S x.p false x.O g x.w:=.BM ha hq;have yg:=Bq P c0 c1 h2 x.id;refine yg.inv (.zg ha ?_);refine⟨x.w,.refl _ _,?_⟩;rw[<-he,<-hb];rfl
theorem Inv.ZL(h:Inv P c0 c1 S0 O0 gm L gs w t q)(hrun:gm.status≠.blocked)(i c:Nat):xe (gs.setIfInBounds i ph) c false=[]:=by
 refine partners_nil fun j y hy=>?_;rcases getElem?_stand gs i j y hy with⟨_,rfl⟩|⟨_,hy⟩
 .exact offersAt_ph _ _
 rcases eX j with rfl|jS
 .rw[h.zero] at hy;cases hy;exact mY hrun _ _
 by_cases ha:act L j
 .obtain⟨x,hx,rfl⟩:=ha;rw[(h.slot x hx).1] at hy;cases hy;cases(h.ws x hx).1 with
  |run hp=>exact mY (by rw[hp.running];simp) _ _
  |uv _ _ _ e=>rw[e];exact offersAt_parked_send' _ _ _ _ _ _
  |uu _ _ _ e=>rw[e];exact offersAt_parked_send' _ _ _ _ _ _
 exact mY (by rcases(h.old j y jS hy ha).status with e|e<;>rw[e]<;>simp) _ _
theorem xi(hw:x.w=w){w2:ak}(hr:iO (fun c=>x.S c\/x.O c) w w2):Sh (x.at w2) x:=⟨w2,by rw[hw];exact hr,rfl⟩
theorem Inv.zg(h:Inv P c0 c1 S0 O0 gm (l1++x::l2) gs w t q)(hrun:gm.status=.running){c:Nat}{v:aj}(ha:AtSend P c v x.g)(hc:c=c0\/c=c1)(Kb:WS P c0 c1 { x with g:=iB x.g #[nP c v zS] .send })(sl:Option (Nat × Nat)) :
  ∃gs',runT P (rh gs w sl) x.id=(.next (rh gs' w sl),#[])/\Inv P c0 c1 S0 O0 gm (l1.map (X.at w)++{ x with g:=iB x.g #[nP c v zS] .send }::l2.map (X.at w)) gs' w t q:=by
 have hx:=nD (x:=x) (l1:=l1) (l2:=l2);have hs:=h.slot x hx;have hlt:x.id<gs.size:=(ah.1 hs.1).1;have hch:Chan c w:=hc.elim (fun e=>e▸h.Cz) fun e=>e▸h.Cw;obtain⟨s,tm,hch⟩:=hch;have hid:(x.id==0)=false:=by have:=hs.2;simp;omega
 have jR:=crowd_waits (P:=P) (sl:=sl) hs.1 (show fe P (x.id==0) x.g w=_ by rw[hid];exact ha.2.2.2 w) (fun cc hcc=>by
  simp only[eR,kh] at hcc;subst hcc
  exact ways_send_none hch (iq _) (h.ZL (by rw[hrun];simp) _ _))
 refine⟨_,jR,?_⟩
 have:=(h.replace (x2:={ x with g:=iB x.g #[nP c v zS] .send }) rfl rfl rfl Kb (h.ws x hx).2 (w':=w) (gm':=gm) (gs':=gs.setIfInBounds x.id (iB x.g #[nP c v zS] .send)) (t':=t)
  (by rw[aB (by have:=hs.2;omega)];exact h.zero) (bg hlt) (fun i _ hi=>aB (xH hi)) sN rfl (fun _ _ _=>rfl) h.Cz h.Cw h.pt (fun _=>rfl) h.wk0 h.st0).1
 exact this
theorem xX{wn:ak}(hrun:gm.status=.running)
  (adF:∀L gs w sl t q,Inv P c0 c1 S0 O0 gm L gs w t q->Bv L f m acc out->iO (fun c=>S0 c\/O0 c) wn w->∃gs' w' aM,runT P (rh gs w sl) 0=(.next (rh gs' w' sl),aM)/\AE w'=AE w/\w.heap.size<=w'.heap.size/\Goal P Fin gs' w' sl (t++aM)) :
  ∀L gs w sl t q,Inv P c0 c1 S0 O0 gm L gs w t q->Bv L f m acc out->iO (fun c=>S0 c\/O0 c) wn w->Goal P Fin gs w sl t:=by
 have key:∀L,Acc (LT (Dn P c0) Sh) L->∀M L0 gs w sl t q,oZ Sh L0 L->sumTo gs.size q=M->Inv P c0 c1 S0 O0 gm L0 gs w t q->Bv L0 f m acc out->iO (fun c=>S0 c\/O0 c) wn w->Goal P Fin gs w sl t:=by
  intro L hL
  induction hL with
  |intro L _ ihL=>
   intro M
   induction M using Nat.strongRecOn with
   |ind M ihM=>
    intro L0 gs w sl t q YF hM hinv oP hrel;obtain⟨i,y,d1,DI,hi,hy,hst⟩:=crowd_pick (P:=P) (w:=w) (sl:=sl) hinv.awake ⟨0,gm,hinv.zero,hrun⟩;have eU:=hinv.draw (w':=w.at d1) rfl;have sZ:=oP.at (w.at d1);have xo:iO (fun c=>S0 c\/O0 c) wn (w.at d1):=hrel.trans (sK rfl);have Jt:oZ Sh (L0.map (X.at (w.at d1))) L:=(oZ.Dg (f:=X.at (w.at d1)) L0 fun z hz=>xi (w2:=w.at d1) (hinv.ws z hz).2 (sK rfl)).trans oI YF;rcases eX i with rfl|jS
    .obtain⟨gs',w',aM,h1,h2,h3,h4⟩:=adF _ gs (w.at d1) DI t q eU sZ xo;exact Goal.step (hst.trans h1) h2 h3 h4
    by_cases ha:act (L0.map (X.at (w.at d1))) i
    .obtain⟨x,hx,rfl⟩:=ha;obtain⟨l1,l2,ya⟩:=List.append_of_mem hx;rw[ya] at eU sZ Jt;have T_:=nD (x:=x) (l1:=l1) (l2:=l2);have Ri:=eU.slot x T_;rw[Ri.1] at hi;have hyx:x.g=y:=a7 hi;subst hyx;have hxw:=(eU.ws x T_).2;have hid:(x.id==0)=false:=sP;cases(eU.ws x T_).1 with
     |uv _ _ _ e=>rw[e] at hy;cases hy
     |uu _ _ _ e=>rw[e] at hy;cases hy
     |run hp=>
      obtain⟨id,S,p,b,O,g,wx⟩:=x;dsimp only at hp hxw hy Ri hid;subst hxw;cases hp with
      |step hr hd Lv PK=>
       obtain⟨g2,w2,es,he,xp,hr2,hd2⟩:=Lv (w.at d1) (.refl _ _);have hwp:=PK (w.at d1) (.refl _ _) g2 w2 es he;have jR:=C_ (P:=P) (sl:=DI) (i:=id) Ri.1 (by rw[hid];exact he);obtain⟨lO,vE⟩:=eU.S2 xp hwp g.frame.fn g.frame.place;rw[eU.woken lO.Cz lO.Cw] at jR
       have hlt:=LT.TQ (D:=Dn P c0) (E:=Sh) (f:=X.at w2) (x:=⟨id,S,p,b,O,g,w.at d1⟩) (x':=⟨id,S,p,b,own O (w.at d1) w2,g2,w2⟩) (.step (w1:=w.at d1) (w2:=w2) (g2:=g2) (es:=es) hr (.refl _ _) he (mR _)) (l2:=l2)
        (fun z hz=>xi (eU.ws z (bS (bJ.2 (.inr hz)))).2 (by
         refine⟨xp.grow,fun c hc=>xp.keep c (eU.geo.lt z (bS (bJ.2 (.inr hz))) c hc).1 fun ho=>?_⟩;have hh:=eU.geo.ww _ T_ z (bS (bJ.2 (.inr hz))) (fun e=>od eU.nodup z (bJ.2 (.inr hz)) e.symm) c ho
         exact hc.elim hh.1 hh.2)) (l1:=l1)
        (fun z hz=>xi (eU.ws z (bS (bJ.2 (.inl hz)))).2 (by
         refine⟨xp.grow,fun c hc=>xp.keep c (eU.geo.lt z (bS (bJ.2 (.inl hz))) c hc).1 fun ho=>?_⟩;have hh:=eU.geo.ww _ T_ z (bS (bJ.2 (.inl hz))) (fun e=>od eU.nodup z (bJ.2 (.inl hz)) e.symm) c ho
         exact hc.elim hh.1 hh.2))
       refine Goal.step (hst.trans jR) xp.AE xp.grow ?_;exact ihL _ (hlt.shift oI (Fb P c0) Jt) _ _ _ _ _ _ q (.refl mR _) rfl lO (sZ.mid (x2:=⟨id,S,p,b,own O (w.at d1) w2,g2,w2⟩) rfl rfl w2) (xo.trans vE)
      |@BN _ _ _ ha hp2=>
       obtain⟨gs',h1,h2⟩:=eU.zg hrun ha (.inl rfl) (.uv rfl ha hp2 rfl) DI;refine Goal.step (hst.trans h1) rfl (aJ _) ?_
       have hlt:=LT.TQ (D:=Dn P c0) (E:=Sh) (f:=X.at (w.at d1)) (x:=⟨id,S,p,true,O,g,w.at d1⟩) (x':=⟨id,S,p,true,O,iB g #[nP c0 p zS] .send,w.at d1⟩) (.zg ha (mR _)) (l2:=l2)
        (fun z hz=>xi (eU.ws z (bS (bJ.2 (.inr hz)))).2 (.refl _ _)) (l1:=l1) (fun z hz=>xi (eU.ws z (bS (bJ.2 (.inl hz)))).2 (.refl _ _))
       rw[dZ];exact ihL _ (hlt.shift oI (Fb P c0) Jt) _ _ _ _ _ _ q (.refl mR _) rfl h2 (sZ.mid (x2:=⟨id,S,p,true,O,iB g #[nP c0 p zS] .send,w.at d1⟩) rfl rfl _) xo
      |@BM _ _ _ n ha hq=>
       obtain⟨gs',h1,h2⟩:=eU.zg hrun ha (.inr rfl) (.uu rfl ha hq rfl) DI;refine Goal.step (hst.trans h1) rfl (aJ _) ?_
       have hlt:=LT.TQ (D:=Dn P c0) (E:=Sh) (f:=X.at (w.at d1)) (x:=⟨id,S,p,false,O,g,w.at d1⟩) (x':=⟨id,S,p,false,O,iB g #[nP c1 (.bool true) zS] .send,w.at d1⟩) (.zg ha (mR _)) (l2:=l2)
        (fun z hz=>xi (eU.ws z (bS (bJ.2 (.inr hz)))).2 (.refl _ _)) (l1:=l1) (fun z hz=>xi (eU.ws z (bS (bJ.2 (.inl hz)))).2 (.refl _ _))
       rw[dZ];exact ihL _ (hlt.shift oI (Fb P c0) Jt) _ _ _ _ _ _ q (.refl mR _) rfl h2 (sZ.mid (x2:=⟨id,S,p,false,O,iB g #[nP c1 (.bool true) zS] .send,w.at d1⟩) rfl rfl _) xo
    obtain⟨gs',aM,q',h1,h2,h3,h4⟩:=eU.slip hi jS hy ha DI;refine Goal.step (hst.trans h1) rfl (aJ _) ?_;exact ihM _ (by rw[h3,<-hM];exact h4) _ _ _ _ _ q' Jt rfl h2 sZ xo
 intro L gs w sl t q hinv oP hrel;exact key L (FN mR oI (Fb P c0) L fun x hx=>Vo (hinv.ws x hx).1) _ L gs w sl t q (.refl mR _) rfl hinv oP hrel
end
section
variable{P:aL}{c0 c1:Nat}{z0 z1:aj}{Fin:List aj->List aj->(Nat->Prop)->(Nat->Prop)->aC->ak->Prop}{S0 O0:Nat->Prop}{gm:aC}{L l1 l2:List X}{x x2:X}{gs gs':Array aC}{w w':ak}{t u:Trace}{q:Nat->Nat}
 {sl sl':Option (Nat × Nat)} {f m:Nat} {acc out:List aj} {aM:Array MemOp}
theorem KA(w:ak)(d c s:Nat)(tm:Bool){x:Obj}(hc:w.heap[c]?=some x):((w.at d).setChan c 0 #[] false s s tm).heap[c]?=some (.chan 0 #[] false s s tm):=by
 show((w.heap).setIfInBounds c _)[c]?=_;exact bg (eJ hc)
theorem tQ(w:ak)(d c s:Nat)(tm:Bool){b:Nat}(hb:b≠c):((w.at d).setChan c 0 #[] false s s tm).heap[b]?=w.heap[b]?:=by
 show((w.heap).setIfInBounds c _)[b]?=_;exact aB (xH hb)
theorem kC(w:ak)(d c s:Nat)(tm:Bool):((w.at d).setChan c 0 #[] false s s tm).heap.size=w.heap.size:=by
 show((w.heap).setIfInBounds c _).size=_;simp
theorem zX{c c' s:Nat}{tm:Bool}(d:Nat)(hc:w.heap[c]?=some (.chan 0 #[] false s s tm))(h:Chan c' w):Chan c' ((w.at d).setChan c 0 #[] false (s+1) (s+1) tm):=by
 by_cases e:c'=c
 .subst e;exact⟨s+1,tm,KA w d c' (s+1) tm hc⟩
 obtain⟨s',tm',h⟩:=h;exact⟨s',tm',by rw[tQ w d c (s+1) tm e];exact h⟩
theorem Inv.found(h:Inv P c0 c1 S0 O0 gm (l1++x::l2) gs w t q){g2:aC}(hp:gU P c0 c1 x.S x.p false x.O g2 x.w){s:Nat}{tm:Bool}(hc:w.heap[c0]?=some (.chan 0 #[] false s s tm))(d:Nat){gm':aC}(hrun:gm'.status=.running)
  (g0:gs'[0]?=some gm') (gx:gs'[x.id]?=some g2) (gr:∀i,i≠0->i≠x.id->gs'[i]?=gs[i]?) (gz:gs'.size=gs.size) (hu:Ip x.id c0 s u) :
  Inv P c0 c1 S0 O0 gm' (l1.map (X.at ((w.at d).setChan c0 0 #[] false (s+1) (s+1) tm))++{ x with b:=false,g:=g2,w:=(w.at d).setChan c0 0 #[] false (s+1) (s+1) tm }::l2.map (X.at ((w.at d).setChan c0 0 #[] false (s+1) (s+1) tm))) gs' ((w.at d).setChan c0 0 #[] false (s+1) (s+1) tm) (t++u) q/\
   iO (fun c=>S0 c\/O0 c) w ((w.at d).setChan c0 0 #[] false (s+1) (s+1) tm):=by
 have hx:=nD (x:=x) (l1:=l1) (l2:=l2);have Uk:=hu.mute (B':=w.heap.size) (eJ hc)
 refine h.replace (x2:={ x with b:=false,g:=g2,w:=(w.at d).setChan c0 0 #[] false (s+1) (s+1) tm }) rfl rfl rfl (.run (hp.rely _ _ _ ?_)) rfl g0 gx gr gz (kC ..) (fun c hc0 _=>tQ w d c0 (s+1) tm hc0) (zX d hc h.Cz) (zX d hc h.Cw)
  (h.pt.acr (aJ _) hu (eJ hc) ⟨x,hx,rfl⟩ fun g=>by simp) (fun i=>iw _ _ _ fun op hop=>(Uk op hop).2.1) (fun g g' w' _ _=>woken_run hrun) (.inl hrun)
 rw[(h.ws x hx).2];exact⟨Nat.le_of_eq (kC w d c0 (s+1) tm).symm,fun c hcc=>tQ w d c0 (s+1) tm (h.geo.lt x hx c hcc).2.1⟩
theorem Inv.last(h:Inv P c0 c1 S0 O0 gm (l1++x::l2) gs w t q){g2:aC}{n:Nat}(hq:QuitsD P n 0 g2){s:Nat}{tm:Bool}(hc:w.heap[c1]?=some (.chan 0 #[] false s s tm))(d:Nat){gm':aC}(hrun:gm'.status=.running)
  (g0:gs'[0]?=some gm') (gx:gs'[x.id]?=some g2) (gr:∀i,i≠0->i≠x.id->gs'[i]?=gs[i]?) (gz:gs'.size=gs.size) (hu:Ip x.id c1 s u) :
  Inv P c0 c1 S0 O0 gm' (l1.map (X.at ((w.at d).setChan c1 0 #[] false (s+1) (s+1) tm))++l2.map (X.at ((w.at d).setChan c1 0 #[] false (s+1) (s+1) tm))) gs' ((w.at d).setChan c1 0 #[] false (s+1) (s+1) tm) (t++u) (upd q x.id n)/\
   iO (fun c=>S0 c\/O0 c) w ((w.at d).setChan c1 0 #[] false (s+1) (s+1) tm):=by
 have hx:=nD (x:=x) (l1:=l1) (l2:=l2);have Uk:=hu.mute (B':=w.heap.size) (eJ hc)
 exact h.cut hq g0 gx gr gz (kC ..) (fun c _ hc1=>tQ w d c1 (s+1) tm hc1) (zX d hc h.Cz) (zX d hc h.Cw)
  (h.pt.Qw (aJ _) hu (eJ hc) ⟨x,hx,rfl⟩) (fun i=>iw _ _ _ fun op hop=>(Uk op hop).2.1) (fun g g' w' _ _=>woken_run hrun) (.inl hrun)
theorem De{i j:Nat}(Us:j≠i)(hi:i<gs.size)(hj:j<gs.size)(a b:aC):((gs.setIfInBounds j a).setIfInBounds i b)[i]?=some b/\((gs.setIfInBounds j a).setIfInBounds i b)[j]?=some a/\(∀k,k≠i->k≠j->((gs.setIfInBounds j a).setIfInBounds i b)[k]?=gs[k]?)/\((gs.setIfInBounds j a).setIfInBounds i b).size=gs.size:=by
 refine⟨bg (by simpa using hi),?_,fun k h1 h2=>?_,sN⟩
 .rw[aB (xH Us),bg hj]
 rw[aB (xH h1),aB (xH h2)]
theorem Em(hne:c0≠c1)(g:aC):offersAt (iB g (jY c0 c1 z0 z1) .select) c0 false=[0]/\offersAt (iB g (jY c0 c1 z0 z1) .select) c1 false=[1]:=by
 have hb:(c1==c0)=false:=beq_eq_false_iff_ne.2 (xH hne);have hb':(c0==c1)=false:=beq_eq_false_iff_ne.2 hne;constructor<;>simp[offersAt,iB,jY,rcase,hne,xH hne]
theorem Inv.Po(h:Inv P c0 c1 S0 O0 (iB gm (jY c0 c1 z0 z1) .select) L gs w t q){i:Nat}(hi:i≠0){c k:Nat}(ho:offersAt (iB gm (jY c0 c1 z0 z1) .select) c false=[k]):xe (gs.setIfInBounds i ph) c false=[(0,k)]:=by
 have h0:(gs.setIfInBounds i ph)[0]?=some (iB gm (jY c0 c1 z0 z1) .select):=by rw[aB hi];exact h.zero
 rw[partners_one h0 fun j y hj hy=>?_,ho]
 .rfl
 rcases getElem?_stand gs i j y hy with⟨_,rfl⟩|⟨_,hy⟩
 .exact offersAt_ph _ _
 by_cases ha:act L j
 .obtain⟨x,hx,rfl⟩:=ha;rw[(h.slot x hx).1] at hy;cases hy;cases(h.ws x hx).1 with
  |run hp=>exact mY (by rw[hp.running];simp) _ _
  |uv _ _ _ e=>rw[e];exact offersAt_parked_send' _ _ _ _ _ _
  |uu _ _ _ e=>rw[e];exact offersAt_parked_send' _ _ _ _ _ _
 exact mY (by rcases(h.old j y oN hy ha).status with e|e<;>rw[e]<;>simp) _ _
theorem Ks{wn:ak}
  (H0:∀v f',f=f'+1->v∈acc->∀w,iO (fun c=>S0 c\/O0 c) wn w->∀L gs sl t q,Inv P c0 c1 S0 O0 (iJ P c0 c1 z0 z1 gm 0 v) L gs w t q->Bv L f' (m+1) acc (out++[v])->Goal P Fin gs w sl t)
  (H1:f<=m->∀w,iO (fun c=>S0 c\/O0 c) wn w->∀L gs sl t q,Inv P c0 c1 S0 O0 (iJ P c0 c1 z0 z1 gm 1 (.bool true)) L gs w t q->Bv L f m acc out->Goal P Fin gs w sl t) :
  ∀L gs w sl t q,Inv P c0 c1 S0 O0 (iB gm (jY c0 c1 z0 z1) .select) L gs w t q->Bv L f (m+1) acc out->iO (fun c=>S0 c\/O0 c) wn w->(∀x∈L,x.g.status=.running)->Goal P Fin gs w sl t:=by
 have key:∀L,Acc (LT (Dn P c0) Sh) L->∀M L0 gs w sl t q,oZ Sh L0 L->sumTo gs.size q=M->Inv P c0 c1 S0 O0 (iB gm (jY c0 c1 z0 z1) .select) L0 gs w t q->Bv L0 f (m+1) acc out->iO (fun c=>S0 c\/O0 c) wn w->(∀x∈L0,x.g.status=.running)->Goal P Fin gs w sl t:=by
  intro L hL
  induction hL with
  |intro L _ ihL=>
   intro M
   induction M using Nat.strongRecOn with
   |ind M ihM=>
    intro L0 gs w sl t q YF hM hinv oP hrel hun
    obtain⟨x0,hx0⟩:∃x,x∈L0:=by
     cases L0 with
     |nil=>have:=oP.m;simp at this
     |cons a l=>exact⟨a,sN⟩
    obtain⟨i,y,d1,DI,hi,hy,hst⟩:=crowd_pick (P:=P) (w:=w) (sl:=sl) hinv.awake ⟨x0.id,x0.g,(hinv.slot x0 hx0).1,hun x0 hx0⟩;have eU:=hinv.draw (w':=w.at d1) rfl;have sZ:=oP.at (w.at d1);have xo:iO (fun c=>S0 c\/O0 c) wn (w.at d1):=hrel.trans (sK rfl)
    have Z1:∀x∈L0.map (X.at (w.at d1)),x.g.status=.running:=fun x hx=>by
     obtain⟨z,hz,rfl⟩:=og.1 hx;exact hun z hz
    have Jt:oZ Sh (L0.map (X.at (w.at d1))) L:=(oZ.Dg (f:=X.at (w.at d1)) L0 fun z hz=>xi (w2:=w.at d1) (hinv.ws z hz).2 (sK rfl)).trans oI YF;rcases eX i with rfl|jS
    .rw[hinv.zero] at hi;cases hi;cases hy
    by_cases ha:act (L0.map (X.at (w.at d1))) i
    .obtain⟨x,hx,rfl⟩:=ha;obtain⟨l1,l2,ya⟩:=List.append_of_mem hx;rw[ya] at eU sZ Jt Z1;have T_:=nD (x:=x) (l1:=l1) (l2:=l2);have Ri:=eU.slot x T_;rw[Ri.1] at hi;have hyx:x.g=y:=a7 hi;subst hyx;have hxw:=(eU.ws x T_).2;have hid:(x.id==0)=false:=sP;have aao:x.id<gs.size:=(ah.1 Ri.1).1;have RB:0<gs.size:=hinv.size;cases(eU.ws x T_).1 with
     |uv _ _ _ e=>rw[e] at hy;cases hy
     |uu _ _ _ e=>rw[e] at hy;cases hy
     |run hp=>
      obtain⟨id,S,p,b,O,g,wx⟩:=x;dsimp only at hp hxw hy Ri hid aao jS;subst hxw;cases hp with
      |step hr hd Lv PK=>
       obtain⟨g2,w2,es,he,xp,hr2,hd2⟩:=Lv (w.at d1) (.refl _ _);have hwp:=PK (w.at d1) (.refl _ _) g2 w2 es he;have jR:=C_ (P:=P) (sl:=DI) (i:=id) Ri.1 (by rw[hid];exact he);obtain⟨lO,vE⟩:=eU.S2 xp hwp g.frame.fn g.frame.place;rw[eU.woken lO.Cz lO.Cw] at jR
       have hlt:=LT.TQ (D:=Dn P c0) (E:=Sh) (f:=X.at w2) (x:=⟨id,S,p,b,O,g,w.at d1⟩) (x':=⟨id,S,p,b,own O (w.at d1) w2,g2,w2⟩) (.step (w1:=w.at d1) (w2:=w2) (g2:=g2) (es:=es) hr (.refl _ _) he (mR _)) (l2:=l2)
        (fun z hz=>xi (eU.ws z (bS (bJ.2 (.inr hz)))).2 (by
         refine⟨xp.grow,fun c hc=>xp.keep c (eU.geo.lt z (bS (bJ.2 (.inr hz))) c hc).1 fun ho=>?_⟩;have hh:=eU.geo.ww _ T_ z (bS (bJ.2 (.inr hz))) (fun e=>od eU.nodup z (bJ.2 (.inr hz)) e.symm) c ho
         exact hc.elim hh.1 hh.2)) (l1:=l1)
        (fun z hz=>xi (eU.ws z (bS (bJ.2 (.inl hz)))).2 (by
         refine⟨xp.grow,fun c hc=>xp.keep c (eU.geo.lt z (bS (bJ.2 (.inl hz))) c hc).1 fun ho=>?_⟩;have hh:=eU.geo.ww _ T_ z (bS (bJ.2 (.inl hz))) (fun e=>od eU.nodup z (bJ.2 (.inl hz)) e.symm) c ho
         exact hc.elim hh.1 hh.2))
       refine Goal.step (hst.trans jR) xp.AE xp.grow ?_;refine ihL _ (hlt.shift oI (Fb P c0) Jt) _ _ _ _ _ _ q (.refl mR _) rfl lO (sZ.mid (x2:=⟨id,S,p,b,own O (w.at d1) w2,g2,w2⟩) rfl rfl w2) (xo.trans vE) fun z hz=>?_;rcases gD.1 hz with rfl|⟨z',hz',rfl⟩
       .exact hr2
       exact Z1 z' (bS hz')
      |@BN _ _ _ ha hp2=>
       obtain⟨s,tm,hch⟩:=eU.Cz;have Un:=crowd_send_meets_sel (P:=P) (sl:=DI) (j:=0) (k:=0) (gj:=gm) (cs:=jY c0 c1 z0 z1) (shj:=.select) (zj:=z0) Ri.1 (show fe P (id==0) g (w.at d1)=_ by rw[hid];exact ha.2.2.2 (w.at d1)) hch oN eU.zero rfl (eU.Po oN (Em eU.ne gm).1);obtain⟨e1,e2,e3,e4⟩:=De (gs:=gs) (i:=id) (j:=0) oN aao RB (iJ P c0 c1 z0 z1 gm 0 p) (fg g ar);obtain⟨f',hf',zF⟩:=sZ.found (x2:=⟨id,S,p,false,O,fg g ar,(w.at d1).setChan c0 0 #[] false (s+1) (s+1) tm⟩) rfl rfl ((w.at d1).setChan c0 0 #[] false (s+1) (s+1) tm)
       obtain⟨lO,vE⟩:=eU.found (g2:=fg g ar) hp2 hch d1 (gm':=iJ P c0 c1 z0 z1 gm 0 p) rfl e2 e1 (fun i h1 h2=>e3 i h2 h1) e4 (u:=#[{ g:=id,fn:=g.frame.fn,pos:=g.frame.place,act:=.send c0 s },{ g:=0,fn:=gm.frame.fn,pos:=gm.frame.place,act:=.recv c0 s 0 },{ g:=id,fn:=g.frame.fn,pos:=g.frame.place,act:=.sendDone c0 s },{ g:=0,fn:=gm.frame.fn,pos:=gm.frame.place,act:=.recvDone c0 s }])
        ⟨_,_,_,_,_,_,_,_,_,rfl⟩
       refine Goal.step (hst.trans Un) rfl (Nat.le_of_eq (kC w d1 c0 (s+1) tm).symm) ?_;exact H0 p f' hf' (sZ.mem (x:=⟨id,S,p,true,O,g,w.at d1⟩) rfl) _ (xo.trans vE) _ _ _ _ q lO zF
      |@BM _ _ _ n ha hq=>
       obtain⟨s,tm,hch⟩:=eU.Cw;have Un:=crowd_send_meets_sel (P:=P) (sl:=DI) (j:=0) (k:=1) (gj:=gm) (cs:=jY c0 c1 z0 z1) (shj:=.select) (zj:=z1) Ri.1 (show fe P (id==0) g (w.at d1)=_ by rw[hid];exact ha.2.2.2 (w.at d1)) hch oN eU.zero rfl (eU.Po oN (Em eU.ne gm).2);obtain⟨e1,e2,e3,e4⟩:=De (gs:=gs) (i:=id) (j:=0) oN aao RB (iJ P c0 c1 z0 z1 gm 1 (.bool true)) (fg g ar);have zF:=sZ.last rfl ((w.at d1).setChan c1 0 #[] false (s+1) (s+1) tm)
       obtain⟨lO,vE⟩:=eU.last (g2:=fg g ar) hq hch d1 (gm':=iJ P c0 c1 z0 z1 gm 1 (.bool true)) rfl e2 e1 (fun i h1 h2=>e3 i h2 h1) e4 (u:=#[{ g:=id,fn:=g.frame.fn,pos:=g.frame.place,act:=.send c1 s },{ g:=0,fn:=gm.frame.fn,pos:=gm.frame.place,act:=.recv c1 s 0 },{ g:=id,fn:=g.frame.fn,pos:=g.frame.place,act:=.sendDone c1 s },{ g:=0,fn:=gm.frame.fn,pos:=gm.frame.place,act:=.recvDone c1 s }])
        ⟨_,_,_,_,_,_,_,_,_,rfl⟩
       refine Goal.step (hst.trans Un) rfl (Nat.le_of_eq (kC w d1 c1 (s+1) tm).symm) ?_;exact H1 zF.le _ (xo.trans vE) _ _ _ _ _ lO zF
    obtain⟨gs',aM,q',h1,h2,h3,h4⟩:=eU.slip hi jS hy ha DI;refine Goal.step (hst.trans h1) rfl (aJ _) ?_;exact ihM _ (by rw[h3,<-hM];exact h4) _ _ _ _ _ q' Jt rfl h2 sZ xo Z1
 intro L gs w sl t q hinv oP hrel hun;exact key L (FN mR oI (Fb P c0) L fun x hx=>Vo (hinv.ws x hx).1) _ L gs w sl t q (.refl mR _) rfl hinv oP hrel hun
end
section
variable{P:aL}{c0 c1:Nat}{z0 z1:aj}{Fin:List aj->List aj->(Nat->Prop)->(Nat->Prop)->aC->ak->Prop}{S0 O0:Nat->Prop}{gm:aC}{L l1 l2:List X}{x x2:X}{gs gs':Array aC}{w w':ak}{t u:Trace}{q:Nat->Nat}
 {sl sl':Option (Nat × Nat)} {f m:Nat} {acc out:List aj} {aM:Array MemOp}
theorem Inv.Pg(h:Inv P c0 c1 S0 O0 gm L gs w t q){c j k:Nat}(hjk:(j,k)∈xe (gs.setIfInBounds 0 ph) c true) :
  k=0/\j≠0/\∃x∈L,x.id=j/\((c=c0/\x.b=true/\∃g,AtSend P c0 x.p g/\gU P c0 c1 x.S x.p false x.O (fg g ar) x.w/\x.g=iB g #[nP c0 x.p zS] .send)\/
   (c=c1/\x.b=false/\∃g n,AtSend P c1 (.bool true) g/\QuitsD P n 0 (fg g ar)/\x.g=iB g #[nP c1 (.bool true) zS] .send)):=by
 obtain⟨g,hg,hk⟩:=mem_partners.1 hjk;rcases getElem?_stand gs 0 j g hg with⟨_,rfl⟩|⟨hj,hg⟩
 .rw[offersAt_ph] at hk;cases hk
 by_cases ha:act L j
 .obtain⟨x,hx,rfl⟩:=ha;rw[(h.slot x hx).1] at hg;cases hg;cases(h.ws x hx).1 with
  |run hp=>rw[mY (by rw[hp.running];simp)] at hk;cases hk
  |@uv g hb ha hp e=>
   rw[e,offersAt_parked_send] at hk;split at hk
   .rename_i hc;simp only[kh] at hk;exact⟨hk,hj,x,hx,rfl,.inl ⟨hc.symm,hb,g,ha,hp,e⟩⟩
   cases hk
  |@uu g n hb ha hq e=>
   rw[e,offersAt_parked_send] at hk;split at hk
   .rename_i hc;simp only[kh] at hk;exact⟨hk,hj,x,hx,rfl,.inr ⟨hc.symm,hb,g,n,ha,hq,e⟩⟩
   cases hk
 rw[mY (by rcases(h.old j g oN hg ha).status with e|e<;>rw[e]<;>simp)] at hk;cases hk
theorem Hi{g gj:aC}{a b:Array CommCase}{sh sh':CommShape}(h:iB g a sh=iB gj b sh'):fg gj ar=fg g undef:=by
 have h1:g.frame=gj.frame:=by have:=congrArg Goroutine.frame h;exact this
 have h2:g.callers=gj.callers:=by have:=congrArg Goroutine.callers h;exact this
 have h3:g.dying=gj.dying:=by have:=congrArg Goroutine.dying h;exact this
 unfold fg;rw[h1,h2,h3]
theorem zf{g gj:aC}{a b:Array CommCase}{sh sh':CommShape}(h:iB g a sh=iB gj b sh'):a=b/\sh=sh':=by
 have:(iB g a sh).offers=(iB gj b sh').offers:=by rw[h]
 simpa [iB] using this
theorem Hl{c c':Nat}{v v' z z':aj}(h:nP c v z=nP c' v' z'):c=c'/\v=v':=by
 simp only[nP,CommCase.mk.injEq,Value.chan.injEq,gP] at h;exact⟨h.1,h.2.1⟩
theorem QR{g:aC}{wn:ak}(h:gG P c0 c1 z0 z1 Fin f m acc out S0 O0 g wn) :
  ∀w,iO (fun c=>S0 c\/O0 c) wn w->∀L gs sl t q,Inv P c0 c1 S0 O0 g L gs w t q->Bv L f m acc out->Goal P (fun acc out S O g w=>Fin acc out S O g w/\Chan c0 w/\Chan c1 w) gs w sl t:=by
 induction h with
 |@fin acc out S O g wn hs rZ=>
  intro w hr L gs sl t q hinv oP;have hL:L=[]:=List.eq_nil_of_length_eq_zero oP.m;subst hL;have hno:∀g,¬act [] g:=fun g ⟨x,hx,_⟩=>by cases hx
  refine⟨0,gs,g,w,sl,t,q,acc,out,S,O,rfl,⟨hinv.zero,⟨fun i y hi hy=>hinv.old i y hi hy (hno i),hinv.above⟩,hinv.pt.past hno⟩,⟨rZ w hr,hinv.Cz,hinv.Cw⟩,?_,rfl,aJ _⟩;have:=oP.perm;simpa [pend] using this
 |@step f m acc out S O g wn hr hd Lv PK ih=>
  intro w hrel L gs sl t q hinv oP;refine xX (f:=f) (m:=m) (acc:=acc) (out:=out) (wn:=wn) hr (fun L gs w sl t q hinv oP hrel=>?_) L gs w sl t q hinv oP hrel;obtain⟨g2,w2,es,he,xp,hr2,hd2⟩:=Lv w hrel;have lO:=hinv.ZP xp hr2 g.frame.fn g.frame.place;have jR:=C_ (P:=P) (sl:=sl) (i:=0) hinv.zero (show fe P (0==0) g w=_ from he);rw[hinv.woken lO.Cz lO.Cw] at jR;exact⟨_,_,_,jR,xp.AE,xp.grow,ih w hrel g2 w2 es he w2 (.refl _ _) _ _ sl _ q lO (oP.at w2)⟩
 |@spawn f m acc out S O Sk S' O' g g' child wn b p hgo hr2 hcr hSk hp M0 hO' hm ih=>
  intro w hrel L gs sl t q hinv oP;refine xX (f:=f) (m:=m) (acc:=acc) (out:=out) (wn:=wn) hgo.1 (fun L gs w sl t q hinv oP hrel=>?_) L gs w sl t q hinv oP hrel;have jR:=runT_crowd_spawn (P:=P) (sl:=sl) (i:=0) hinv.zero (show fe P (0==0) g w=_ from hgo.2.2 w);have hpw:gU P c0 c1 Sk p b (fun _=>False) child w:=hp.rely _ _ _ ⟨hrel.grow,fun c hc=>hrel.keep c (hSk c (by simpa using hc))⟩;have lO:=hinv.spawn hr2 hSk M0 hO' hpw (y:={ g:=0,fn:=g.frame.fn,pos:=g.frame.place,act:=.go gs.size }) (z:={ g:=gs.size,fn:=child.frame.fn,pos:=g.frame.place,act:=.start }) ⟨rfl,rfl⟩ ⟨rfl,rfl⟩;refine⟨_,_,_,jR,rfl,aJ _,?_⟩;exact ih w ⟨hrel.grow,fun c hc=>hrel.keep c (hc.elim (M0 c) fun h=>.inr (hO' c h).1)⟩ _ _ sl _ q lO (oP.more (x:=⟨gs.size,Sk,p,b,fun _=>False,child,w⟩))
 |@select f m acc out S O g wn Xp h0 h1 ih0 Yz=>
  intro w hrel L gs sl t q hinv oP;refine xX (f:=f) (m:=m+1) (acc:=acc) (out:=out) (wn:=wn) Xp.1 (fun L gs w sl t q hinv oP hrel=>?_) L gs w sl t q hinv oP hrel;have hst:fe P (0==0) g w=.comm g #[rcase c0 z0,rcase c1 z1] true .select w #[]:=Xp.2.2.2 w;have RB:0<gs.size:=hinv.size;obtain⟨s0,tm0,hc0⟩:=hinv.Cz;obtain⟨s1,tm1,hc1⟩:=hinv.Cw
  by_cases hno:xe (gs.setIfInBounds 0 ph) c0 true=[]/\xe (gs.setIfInBounds 0 ph) c1 true=[]
  .
   have jR:=crowd_waits (P:=P) (sl:=sl) hinv.zero hst (fun cc hcc=>by
    simp only[eR,cy,gJ,or_false] at hcc;rcases hcc with rfl|rfl
    .exact ways_recv_none hc0 hno.1
    exact ways_recv_none hc1 hno.2)
   have hun:∀x∈L,x.g.status=.running:=fun x hx=>by
    have hs:=hinv.slot x hx;have hmem:∀c k,k∈offersAt x.g c true->(x.id,k)∈xe (gs.setIfInBounds 0 ph) c true:=fun c k hk=>mem_partners.2 ⟨x.g,by rw[aB (by have:=hs.2;omega)];exact hs.1,hk⟩;cases(hinv.ws x hx).1 with
    |run hp=>exact hp.running
    |uv _ _ _ e=>
     have:=hmem c0 0 (by rw[e,offersAt_parked_send];simp);rw[hno.1] at this;cases this
    |uu _ _ _ e=>
     have:=hmem c1 0 (by rw[e,offersAt_parked_send];simp);rw[hno.2] at this;cases this
   have lO:Inv P c0 c1 S O (iB g (jY c0 c1 z0 z1) .select) L (gs.setIfInBounds 0 (iB g (jY c0 c1 z0 z1) .select)) w t q:=by
    refine⟨bg RB,fun x hx=>⟨?_,(hinv.slot x hx).2⟩,hinv.ws,hinv.nodup,fun i y hi hy ha=>?_,fun j hj=>hinv.above j (by simpa using hj),hinv.pt,hinv.geo,hinv.Cz,hinv.Cw,hinv.ne,fun a a' w' hw0 hw1=>?_,.inr rfl⟩
    .rw[aB (by have:=(hinv.slot x hx).2;omega)];exact(hinv.slot x hx).1
    .rw[aB oN] at hy;exact hinv.old i y hi hy ha
    have hag:(iB g (jY c0 c1 z0 z1) .select).again w'=iB g (jY c0 c1 z0 z1) .select:=by
     refine again_all_open fun cc hcc=>?_;obtain⟨s,tm,e0⟩:=hw0;obtain⟨s',tm',e1⟩:=hw1;simp only[jY,eR,cy,gJ,or_false] at hcc;rcases hcc with rfl|rfl
     .exact⟨c0,z0,0,#[],s,s,tm,rfl,e0⟩
     exact⟨c1,z1,0,#[],s',s',tm',rfl,e1⟩
    unfold Conc.woken;split
    .exact hag
    rfl
   refine⟨_,_,_,jR,rfl,aJ _,?_⟩;exact Ks (P:=P) (f:=f) (m:=m) (acc:=acc) (out:=out) (wn:=wn) (fun v f' e hv w hr=>ih0 v f' e hv w hr) (fun hf w hr=>Yz hf w hr) L _ w sl _ q (by rw[show t++iC 0 g.frame.fn g.frame.place #[]=t from dZ ..];exact lO) oP hrel hun
  
  obtain⟨kk,c,s,r,tm,j,gj,vj,zj,shj,d,EP,hj0,hgj,jR⟩:=Gv (P:=P) (sl:=sl) hinv.zero hst hc0 hc1
   (by
    rcases Classical.em (xe (gs.setIfInBounds 0 ph) c0 true=[]) with e|e
    .exact .inr fun e'=>hno ⟨e,e'⟩
    exact .inl e)
   (fun c hc j k hjk=>by
    obtain⟨hk,hj,x,hx,rfl,Lr⟩:=hinv.Pg hjk;refine⟨hk,hj,?_⟩;have hs:=(hinv.slot x hx).1;rcases Lr with⟨rfl,_,g',_,_,e⟩|⟨rfl,_,g',_,_,_,e⟩
    .exact⟨g',x.p,zS,.send,by rw[hs,e]⟩
    exact⟨g',.bool true,zS,.send,by rw[hs,e]⟩)
  have hcc:c=c0\/c=c1:=by rcases EP with⟨_,h,_⟩|⟨_,h,_⟩<;>simp[h]
  have adJ:j<gs.size:=(ah.1 hgj).1;have hmem:(j,0)∈xe (gs.setIfInBounds 0 ph) c true:=mem_partners.2 ⟨_,by rw[aB (xH hj0)];exact hgj,by rw[offersAt_parked_send];simp⟩;obtain⟨_,_,x,hx,rfl,Lr⟩:=hinv.Pg hmem
  have Gm:x.g=iB gj #[nP c vj zj] shj:=by
   have:=(hinv.slot x hx).1;rw[hgj] at this;exact(a7 this).symm
  obtain⟨l1,l2,ya⟩:=List.append_of_mem hx;subst ya;rcases Lr with⟨rfl,hb,g',ha,hp,e⟩|⟨rfl,hb,g',n,ha,hq,e⟩
  .rw[e] at Gm;obtain⟨e1,e2⟩:=zf Gm;have e3:nP c x.p zS=nP c vj zj:=by simpa using e1
   obtain⟨_,rfl⟩:=Hl e3;subst e2
   have hk0:kk=0/\s=s0/\r=s0/\tm=tm0:=by
    rcases EP with⟨h1,_,h2,h3,h4⟩|⟨_,h1,_⟩
    .exact⟨h1,h2,h3,h4⟩
    exact absurd h1 hinv.ne
   obtain⟨rfl,rfl,rfl,rfl⟩:=hk0
   have rZ:gj.finishComm P #[nP c x.p zj] .send 0 ar false=fg g' undef:=by
    rw[finishComm_send];exact Hi Gm
   rw[rZ] at jR;obtain⟨g1,g2,g3,g4⟩:=De (gs:=gs) (i:=0) (j:=x.id) hj0 RB adJ (fg g' ar) (iJ P c c1 z0 z1 g 0 x.p)
   obtain⟨lO,vE⟩:=hinv.found (g2:=fg g' ar) hp hc0 d (gm':=iJ P c c1 z0 z1 g 0 x.p) rfl g1 g2 (fun i a b=>g3 i a b) g4 (u:=#[{ g:=x.id,fn:=gj.frame.fn,pos:=gj.frame.place,act:=.send c r },{ g:=0,fn:=g.frame.fn,pos:=g.frame.place,act:=.recv c r 0 },{ g:=x.id,fn:=gj.frame.fn,pos:=gj.frame.place,act:=.sendDone c r },{ g:=0,fn:=g.frame.fn,pos:=g.frame.place,act:=.recvDone c r }])
    ⟨_,_,_,_,_,_,_,_,_,rfl⟩
   obtain⟨f',hf',zF⟩:=oP.found (x2:={ x with b:=false,g:=fg g' ar,w:=(w.at d).setChan c 0 #[] false (r+1) (r+1) tm }) hb rfl ((w.at d).setChan c 0 #[] false (r+1) (r+1) tm);exact⟨_,_,_,jR,rfl,Nat.le_of_eq (kC w d c (r+1) tm).symm,ih0 x.p f' hf' (oP.mem hb) _ (hrel.trans vE) _ _ sl _ q lO zF⟩
  rw[e] at Gm;obtain⟨e1,e2⟩:=zf Gm;have e3:nP c (.bool true) zS=nP c vj zj:=by simpa using e1
  obtain⟨_,rfl⟩:=Hl e3;subst e2
  have hk0:kk=1/\s=s1/\r=s1/\tm=tm1:=by
   rcases EP with⟨_,h1,_⟩|⟨h1,_,h2,h3,h4⟩
   .exact absurd h1.symm hinv.ne
   exact⟨h1,h2,h3,h4⟩
  obtain⟨rfl,rfl,rfl,rfl⟩:=hk0
  have rZ:gj.finishComm P #[nP c (.bool true) zj] .send 0 ar false=fg g' undef:=by
   rw[finishComm_send];exact Hi Gm
  rw[rZ] at jR;obtain⟨g1,g2,g3,g4⟩:=De (gs:=gs) (i:=0) (j:=x.id) hj0 RB adJ (fg g' ar) (iJ P c0 c z0 z1 g 1 (.bool true))
  obtain⟨lO,vE⟩:=hinv.last (g2:=fg g' ar) hq hc1 d (gm':=iJ P c0 c z0 z1 g 1 (.bool true)) rfl g1 g2 (fun i a b=>g3 i a b) g4 (u:=#[{ g:=x.id,fn:=gj.frame.fn,pos:=gj.frame.place,act:=.send c r },{ g:=0,fn:=g.frame.fn,pos:=g.frame.place,act:=.recv c r 0 },{ g:=x.id,fn:=gj.frame.fn,pos:=gj.frame.place,act:=.sendDone c r },{ g:=0,fn:=g.frame.fn,pos:=g.frame.place,act:=.recvDone c r }])
   ⟨_,_,_,_,_,_,_,_,_,rfl⟩
  have zF:=oP.last hb ((w.at d).setChan c 0 #[] false (r+1) (r+1) tm);exact⟨_,_,_,jR,rfl,Nat.le_of_eq (kC w d c (r+1) tm).symm,Yz zF.le _ (hrel.trans vE) _ _ sl _ _ lO zF⟩
theorem I7(hne:c0≠c1){g:aC}{w:ak}(h:gG P c0 c1 z0 z1 Fin 0 0 [] [] S0 O0 g w)(hg:g.status=.running)(hc0:Chan c0 w)(hc1:Chan c1 w)(ahf:∀c,S0 c\/O0 c->c<w.heap.size/\c≠c0/\c≠c1)(MX:∀c,S0 c->¬O0 c) :
  qP P (fun g' w'=>∃acc out S O,(Fin acc out S O g' w'/\Chan c0 w'/\Chan c1 w')/\out.Perm acc/\w.heap.size<=w'.heap.size/\w'.os=w.os/\w'.output=w.output) g w:=by
 intro I d gs sl t q hb;have hrel:iO (fun c=>S0 c\/O0 c) w (dn w I d):=⟨aJ _,fun _ _=>rfl⟩
 have hinv:Inv P c0 c1 S0 O0 g [] gs (dn w I d) t q:=by
  refine⟨hb.zero,fun x hx=>(by cases hx),fun x hx=>(by cases hx),List.nodup_nil,fun i y hi hy _=>hb.old.old i y hi hy,hb.old.above,?_,?_,hc0,hc1,hne,fun _ _ _ _ _=>woken_run hg,.inl hg⟩
  .exact(PT.WV (S:=SL []) (O:=OL []) hb.past).congr (fun g=>⟨fun⟨x,hx,_⟩=>(by cases hx),fun h=>h.elim⟩) (fun g hg=>hg.elim) fun g hg=>hg.elim
  exact⟨ahf,MX,fun x hx=>by(cases hx),fun x hx=>by(cases hx),fun x hx=>by(cases hx),fun x hx=>by(cases hx),fun x hx=>by(cases hx)⟩
 obtain⟨N,gs',g',w',sl',t',q',acc,out,S,O,h1,h2,h3,h4,h5,h6⟩:=QR h _ hrel [] gs sl t q hinv ⟨rfl,rfl,by simp[pend]⟩;refine⟨N,gs',g',w',w'.drawn,sl',t',q',?_,h2,acc,out,S,O,h3,h4,h6,congrArg (·.2.1) h5,congrArg (·.2.2) h5⟩;rw[h1]
 have:w'=dn w' I w'.drawn:=by
  have e:w'.tape=I:=congrArg (·.1) h5;cases w';simp only at e;subst e;rfl
 rw[<-this]
end
end Go.Lag
namespace Go.Proofs.YtffladgmkiimjaaGreatDoor
open Go.Lag
def Tq:Tryz.prog.funcs.all (fun fn=>fn.body.all dX)=true:=kN
def Wx:Tryz.prog.follows .staticDataAhead=true:=kN
def Pm:Tryz.prog.funcs.all (fun fn=>!(fn.name == "runtime.NumGoroutine"))=true:=kN
end Go.Proofs.YtffladgmkiimjaaGreatDoor
namespace Go.Lag
section
variable{P:aL}
theorem wI(s:String):Calm P Any (Extern.RuntimeError.text s):=trivial
theorem wK{α:Type}{Q:α->Prop}{c:Prop}[Decidable c]{t:c->Sem α}{e:¬c->Sem α}(ht:∀h,Calm P Q (t h))(he:∀h,Calm P Q (e h)):Calm P Q (dite c t e):=by
 split
 .exact ht _
 exact he _
theorem X5(o:Option String)(f:String->String):Calm P Any (match o with|some fmt=>Extern.RuntimeError.text (f fmt)|none=>stuck "boundsError: no such code"):=by
 cases o
 .exact bF
 exact wI _
theorem Ba(args):Calm P Any (Extern.RuntimeError.boundsError args):=by
 unfold Extern.RuntimeError.boundsError
 delta Extern.RuntimeError.boundsError.match_2
 refine wK (c:=args.size=1) (fun h=>?_) fun h=>bF;obtain⟨l⟩:=args
 match l,h with
 |[a],h=>
  cases a with
  |agg cs=>
   refine wK (c:=cs.size=4) (fun h=>?_) fun h=>bF;obtain⟨l⟩:=cs
   match l,h with
   |[x0,x1,x2,x3],h=>
    cases x0 with
    |int _ _=>
     cases x1 with
     |int _ _=>
      cases x2 with
      |bool _=>
       cases x3 with
       |int _ _=>exact X5 _ _
       |_=>exact bF
      |_=>exact bF
     |_=>exact bF
    |_=>exact bF
  |_=>exact bF
theorem vO(v):Calm P Any (Extern.RuntimeError.described v):=by
 unfold Extern.RuntimeError.described
 repeat' (first
   |(with_reducible first|exact ud ..|exact jz ..|exact kY ..|exact ui ..|exact np ..|exact qN ..|exact fB ..|exact cH|exact uf|exact bF|exact dK|exact kF|exact uh|exact qL|exact tD)
   |(with_reducible first|exact qM|exact ue|exact rN|exact rM|exact lS|exact jv|exact nK|exact oW)
   |with_reducible exact(lR rfl)|with_reducible exact(iV rfl)
   |(with_reducible assumption)|(with_reducible apply ng;exact rfl)|(with_reducible refine qG ?_ (fun o ho=>by cases o<;>first|rfl|(revert ho;simp[fU];done)))|(refine kr (fun _ _=>?_) ?_)|(refine aS ?_ (fun _=>?_))|(refine vN ?_)|(refine qg (fun _=>?_) _)|(refine js (fun _ _=>?_) _ _)|(refine l8 (fun _ _=>?_) _ _)|(refine l7 (fun _ _=>?_) _ _)|split|intro _|dsimp only|trivial)
theorem Fq(i):Calm P Any (Extern.RuntimeError.pkgpathOf i):=by
 unfold Extern.RuntimeError.pkgpathOf
 repeat' (first
   |(with_reducible first|exact ud ..|exact jz ..|exact kY ..|exact ui ..|exact np ..|exact qN ..|exact fB ..|exact cH|exact uf|exact bF|exact dK|exact kF|exact uh|exact qL|exact tD)
   |(with_reducible first|exact qM|exact ue|exact rN|exact rM|exact lS|exact jv|exact nK|exact oW)
   |with_reducible exact(lR rfl)|with_reducible exact(iV rfl)
   |(with_reducible assumption)|(with_reducible apply ng;exact rfl)|(with_reducible refine qG ?_ (fun o ho=>by cases o<;>first|rfl|(revert ho;simp[fU];done)))|(refine kr (fun _ _=>?_) ?_)|(refine aS ?_ (fun _=>?_))|(refine vN ?_)|(refine qg (fun _=>?_) _)|(refine js (fun _ _=>?_) _ _)|(refine l8 (fun _ _=>?_) _ _)|(refine l7 (fun _ _=>?_) _ _)|split|intro _|dsimp only|trivial)
theorem tu(args):Calm P Any (Extern.RuntimeError.typeAssertionError args):=by
 unfold Extern.RuntimeError.typeAssertionError
 repeat' (first
   |(with_reducible first|exact ud ..|exact jz ..|exact kY ..|exact ui ..|exact np ..|exact qN ..|exact fB ..|exact wI ..|exact vO ..|exact Fq ..|exact cH|exact uf|exact bF|exact dK|exact kF|exact uh|exact qL|exact tD)
   |(with_reducible first|exact qM|exact ue|exact rN|exact rM|exact lS|exact jv|exact nK|exact oW)
   |with_reducible exact(lR rfl)|with_reducible exact(iV rfl)
   |(with_reducible assumption)|(with_reducible apply ng;exact rfl)|(with_reducible refine qG ?_ (fun o ho=>by cases o<;>first|rfl|(revert ho;simp[fU];done)))|(refine kr (fun _ _=>?_) ?_)|(refine aS ?_ (fun _=>?_))|(refine vN ?_)|(refine qg (fun _=>?_) _)|(refine js (fun _ _=>?_) _ _)|(refine l8 (fun _ _=>?_) _ _)|(refine l7 (fun _ _=>?_) _ _)|split|intro _|dsimp only|trivial)
theorem Ve(o:Option TypeInfo):Calm P Any (match o with|some t=>Extern.RuntimeError.text ("hash of unhashable type: "++t.str)|_=>runtimePanic RuntimeError.nilDeref):=by
 cases o
 .exact fB _
 exact wI _
theorem r9(args):Calm P Any (Extern.RuntimeError.unhashableTypeError args):=by
 unfold Extern.RuntimeError.unhashableTypeError
 delta Extern.RuntimeError.unhashableTypeError.match_1
 refine wK (c:=args.size=1) (fun h=>?_) fun h=>bF;obtain⟨l⟩:=args
 match l,h with
 |[a],h=>
  cases a with
  |agg cs=>
   refine wK (c:=cs.size=1) (fun h=>?_) fun h=>bF;obtain⟨l⟩:=cs
   match l,h with
   |[x0],h=>exact aS (vO _) fun o=>Ve o
  |_=>exact bF
structure Yf(P:aL)(e:Option (Array aj->Sem aj)):Prop where
 ok:∀x,e=some x->∀args,Calm P Any (x args)
theorem fQ{f:dU}{fn:Func}(hf:P.funcs[f]?=some fn)(hb:fn.body=none)(hn:(fn.name == "runtime.NumGoroutine")=false)(h1:cZ fn=none)(h2:Yf P (fJ fn))(args:Array aj):Calm P eP (fG f args):=by
 unfold fG;refine eM (R:=fun p=>p=P) (show P=P from rfl) ?_;rintro p rfl;rw[hf];have hb':fn.body.isNone=true:=by rw[hb];rfl
 simp only[hn,hb',h1,bE,if_false,if_true];refine aS (show Calm p Any (mark (.extern f)) from⟨.inr ⟨f,rfl⟩,trivial⟩) fun _=>?_;generalize fJ fn=e at h2;cases e with
 |some e=>exact aS (h2.ok e rfl args) fun _=>trivial
 |none=>
  dsimp only;split
  .exact trivial
  exact dK
end
end Go.Lag
namespace Go.Proofs.YtffladgmkiimjaaGreatDoor
open Go.Lag
def nb0{P:aL}(hP:P.funcs[(0:Nat)]?=some Tryz.f0)(args:Array aj):Go.Lag.Calm P Go.Lag.eP (fG (0:Nat) args):=by
 have h1:cZ Tryz.f0=none:=kN;have h2:fJ Tryz.f0=none:=lh.1 kN;have h3:Tryz.f0.body=none:=kN
 have h4:(Tryz.f0.name == "runtime.NumGoroutine")=false:=kN;refine fQ (P:=P) (f:=(0:Nat)) (fn:=Tryz.f0) hP h3 h4 h1 ⟨fun x hx=>?_⟩ args;rw[h2] at hx;cases hx
def nb1{P:aL}(hP:P.funcs[(1:Nat)]?=some Tryz.f1)(args:Array aj):Go.Lag.Calm P Go.Lag.eP (fG (1:Nat) args):=by
 have h1:cZ Tryz.f1=none:=kN;have h2:fJ Tryz.f1=none:=lh.1 kN;have h3:Tryz.f1.body=none:=kN
 have h4:(Tryz.f1.name == "runtime.NumGoroutine")=false:=kN;refine fQ (P:=P) (f:=(1:Nat)) (fn:=Tryz.f1) hP h3 h4 h1 ⟨fun x hx=>?_⟩ args;rw[h2] at hx;cases hx
def ac9{P:aL}(hP:P.funcs[(202:Nat)]?=some Tryz.f202)(args:Array aj):Go.Lag.Calm P Go.Lag.eP (fG (202:Nat) args):=by
 have h1:cZ Tryz.f202=none:=kN;have h2:fJ Tryz.f202=some Extern.RuntimeError.boundsError:=kN;have h3:Tryz.f202.body=none:=kN
 have h4:(Tryz.f202.name == "runtime.NumGoroutine")=false:=kN;refine fQ (P:=P) (f:=(202:Nat)) (fn:=Tryz.f202) hP h3 h4 h1 ⟨fun x hx=>?_⟩ args;rw[h2] at hx;cases hx;exact Ba
def ac8{P:aL}(hP:P.funcs[(203:Nat)]?=some Tryz.f203)(args:Array aj):Go.Lag.Calm P Go.Lag.eP (fG (203:Nat) args):=by
 have h1:cZ Tryz.f203=none:=kN;have h2:fJ Tryz.f203=some Extern.RuntimeError.nothing:=kN;have h3:Tryz.f203.body=none:=kN
 have h4:(Tryz.f203.name == "runtime.NumGoroutine")=false:=kN;refine fQ (P:=P) (f:=(203:Nat)) (fn:=Tryz.f203) hP h3 h4 h1 ⟨fun x hx=>?_⟩ args;rw[h2] at hx;cases hx;exact fun args=>trivial
def ac7{P:aL}(hP:P.funcs[(204:Nat)]?=some Tryz.f204)(args:Array aj):Go.Lag.Calm P Go.Lag.eP (fG (204:Nat) args):=by
 have h1:cZ Tryz.f204=none:=kN
 have h2:fJ Tryz.f204=some (fun args=>do pure (.string ("runtime error: ".toUTF8++(<-asString (args.getD 0 (bB #[])))))):=kN;have h3:Tryz.f204.body=none:=kN
 have h4:(Tryz.f204.name == "runtime.NumGoroutine")=false:=kN;refine fQ (P:=P) (f:=(204:Nat)) (fn:=Tryz.f204) hP h3 h4 h1 ⟨fun x hx=>?_⟩ args;rw[h2] at hx;cases hx;exact fun args=>aS (kY ..) fun _=>trivial
def ac6{P:aL}(hP:P.funcs[(205:Nat)]?=some Tryz.f205)(args:Array aj):Go.Lag.Calm P Go.Lag.eP (fG (205:Nat) args):=by
 have h1:cZ Tryz.f205=none:=kN;have h2:fJ Tryz.f205=some Extern.RuntimeError.nothing:=kN;have h3:Tryz.f205.body=none:=kN
 have h4:(Tryz.f205.name == "runtime.NumGoroutine")=false:=kN;refine fQ (P:=P) (f:=(205:Nat)) (fn:=Tryz.f205) hP h3 h4 h1 ⟨fun x hx=>?_⟩ args;rw[h2] at hx;cases hx;exact fun args=>trivial
def ac5{P:aL}(hP:P.funcs[(206:Nat)]?=some Tryz.f206)(args:Array aj):Go.Lag.Calm P Go.Lag.eP (fG (206:Nat) args):=by
 have h1:cZ Tryz.f206=none:=kN;have h2:fJ Tryz.f206=some (fun args=>do pure (.string (<-asString (args.getD 0 (bB #[]))))):=kN;have h3:Tryz.f206.body=none:=kN
 have h4:(Tryz.f206.name == "runtime.NumGoroutine")=false:=kN;refine fQ (P:=P) (f:=(206:Nat)) (fn:=Tryz.f206) hP h3 h4 h1 ⟨fun x hx=>?_⟩ args;rw[h2] at hx;cases hx;exact fun args=>aS (kY ..) fun _=>trivial
def ac4{P:aL}(hP:P.funcs[(207:Nat)]?=some Tryz.f207)(args:Array aj):Go.Lag.Calm P Go.Lag.eP (fG (207:Nat) args):=by
 have h1:cZ Tryz.f207=none:=kN;have h2:fJ Tryz.f207=some Extern.RuntimeError.nothing:=kN;have h3:Tryz.f207.body=none:=kN
 have h4:(Tryz.f207.name == "runtime.NumGoroutine")=false:=kN;refine fQ (P:=P) (f:=(207:Nat)) (fn:=Tryz.f207) hP h3 h4 h1 ⟨fun x hx=>?_⟩ args;rw[h2] at hx;cases hx;exact fun args=>trivial
def ac3{P:aL}(hP:P.funcs[(208:Nat)]?=some Tryz.f208)(args:Array aj):Go.Lag.Calm P Go.Lag.eP (fG (208:Nat) args):=by
 have h1:cZ Tryz.f208=none:=kN
 have h2:fJ Tryz.f208=some (fun args=>do pure (.string ("runtime error: ".toUTF8++(<-asString ((<-asAgg (args.getD 0 (bB #[]))).getD 0 (bB #[])))))):=kN;have h3:Tryz.f208.body=none:=kN
 have h4:(Tryz.f208.name == "runtime.NumGoroutine")=false:=kN;refine fQ (P:=P) (f:=(208:Nat)) (fn:=Tryz.f208) hP h3 h4 h1 ⟨fun x hx=>?_⟩ args;rw[h2] at hx;cases hx;exact fun args=>aS (ui ..) fun _=>aS (kY ..) fun _=>trivial
def ac2{P:aL}(hP:P.funcs[(209:Nat)]?=some Tryz.f209)(args:Array aj):Go.Lag.Calm P Go.Lag.eP (fG (209:Nat) args):=by
 have h1:cZ Tryz.f209=none:=kN;have h2:fJ Tryz.f209=some Extern.RuntimeError.nothing:=kN;have h3:Tryz.f209.body=none:=kN
 have h4:(Tryz.f209.name == "runtime.NumGoroutine")=false:=kN;refine fQ (P:=P) (f:=(209:Nat)) (fn:=Tryz.f209) hP h3 h4 h1 ⟨fun x hx=>?_⟩ args;rw[h2] at hx;cases hx;exact fun args=>trivial
def ac1{P:aL}(hP:P.funcs[(210:Nat)]?=some Tryz.f210)(args:Array aj):Go.Lag.Calm P Go.Lag.eP (fG (210:Nat) args):=by
 have h1:cZ Tryz.f210=none:=kN;have h2:fJ Tryz.f210=some Extern.RuntimeError.typeAssertionError:=kN;have h3:Tryz.f210.body=none:=kN
 have h4:(Tryz.f210.name == "runtime.NumGoroutine")=false:=kN;refine fQ (P:=P) (f:=(210:Nat)) (fn:=Tryz.f210) hP h3 h4 h1 ⟨fun x hx=>?_⟩ args;rw[h2] at hx;cases hx;exact tu
def ac0{P:aL}(hP:P.funcs[(211:Nat)]?=some Tryz.f211)(args:Array aj):Go.Lag.Calm P Go.Lag.eP (fG (211:Nat) args):=by
 have h1:cZ Tryz.f211=none:=kN;have h2:fJ Tryz.f211=some Extern.RuntimeError.nothing:=kN;have h3:Tryz.f211.body=none:=kN
 have h4:(Tryz.f211.name == "runtime.NumGoroutine")=false:=kN;refine fQ (P:=P) (f:=(211:Nat)) (fn:=Tryz.f211) hP h3 h4 h1 ⟨fun x hx=>?_⟩ args;rw[h2] at hx;cases hx;exact fun args=>trivial
def acZ{P:aL}(hP:P.funcs[(212:Nat)]?=some Tryz.f212)(args:Array aj):Go.Lag.Calm P Go.Lag.eP (fG (212:Nat) args):=by
 have h1:cZ Tryz.f212=none:=kN
 have h2:fJ Tryz.f212=some (fun _=>Extern.RuntimeError.text "runtime error: panic called with nil argument"):=kN;have h3:Tryz.f212.body=none:=kN
 have h4:(Tryz.f212.name == "runtime.NumGoroutine")=false:=kN;refine fQ (P:=P) (f:=(212:Nat)) (fn:=Tryz.f212) hP h3 h4 h1 ⟨fun x hx=>?_⟩ args;rw[h2] at hx;cases hx;exact fun args=>wI _
def acY{P:aL}(hP:P.funcs[(213:Nat)]?=some Tryz.f213)(args:Array aj):Go.Lag.Calm P Go.Lag.eP (fG (213:Nat) args):=by
 have h1:cZ Tryz.f213=none:=kN;have h2:fJ Tryz.f213=some Extern.RuntimeError.nothing:=kN;have h3:Tryz.f213.body=none:=kN
 have h4:(Tryz.f213.name == "runtime.NumGoroutine")=false:=kN;refine fQ (P:=P) (f:=(213:Nat)) (fn:=Tryz.f213) hP h3 h4 h1 ⟨fun x hx=>?_⟩ args;rw[h2] at hx;cases hx;exact fun args=>trivial
def acX{P:aL}(hP:P.funcs[(214:Nat)]?=some Tryz.f214)(args:Array aj):Go.Lag.Calm P Go.Lag.eP (fG (214:Nat) args):=by
 have h1:cZ Tryz.f214=none:=kN;have h2:fJ Tryz.f214=none:=lh.1 kN;have h3:Tryz.f214.body=none:=kN
 have h4:(Tryz.f214.name == "runtime.NumGoroutine")=false:=kN;refine fQ (P:=P) (f:=(214:Nat)) (fn:=Tryz.f214) hP h3 h4 h1 ⟨fun x hx=>?_⟩ args;rw[h2] at hx;cases hx
def acW{P:aL}(hP:P.funcs[(215:Nat)]?=some Tryz.f215)(args:Array aj):Go.Lag.Calm P Go.Lag.eP (fG (215:Nat) args):=by
 have h1:cZ Tryz.f215=none:=kN;have h2:fJ Tryz.f215=some Extern.RuntimeError.unhashableTypeError:=kN;have h3:Tryz.f215.body=none:=kN
 have h4:(Tryz.f215.name == "runtime.NumGoroutine")=false:=kN;refine fQ (P:=P) (f:=(215:Nat)) (fn:=Tryz.f215) hP h3 h4 h1 ⟨fun x hx=>?_⟩ args;rw[h2] at hx;cases hx;exact r9
def acV{P:aL}(hP:P.funcs[(216:Nat)]?=some Tryz.f216)(args:Array aj):Go.Lag.Calm P Go.Lag.eP (fG (216:Nat) args):=by
 have h1:cZ Tryz.f216=none:=kN;have h2:fJ Tryz.f216=some Extern.RuntimeError.nothing:=kN;have h3:Tryz.f216.body=none:=kN
 have h4:(Tryz.f216.name == "runtime.NumGoroutine")=false:=kN;refine fQ (P:=P) (f:=(216:Nat)) (fn:=Tryz.f216) hP h3 h4 h1 ⟨fun x hx=>?_⟩ args;rw[h2] at hx;cases hx;exact fun args=>trivial
def acU{P:aL}(hP:P.funcs[(217:Nat)]?=some Tryz.f217)(args:Array aj):Go.Lag.Calm P Go.Lag.eP (fG (217:Nat) args):=by
 have h1:cZ Tryz.f217=none:=kN;have h2:fJ Tryz.f217=some (fun args=>do pure (strVal (Go.Extern.Rtype.kindName (<-asInt (args.getD 0 (bB #[]))).toNat))):=kN;have h3:Tryz.f217.body=none:=kN
 have h4:(Tryz.f217.name == "runtime.NumGoroutine")=false:=kN;refine fQ (P:=P) (f:=(217:Nat)) (fn:=Tryz.f217) hP h3 h4 h1 ⟨fun x hx=>?_⟩ args;rw[h2] at hx;cases hx;exact fun args=>aS (qN ..) fun _=>trivial
def acT{P:aL}(hP:P.funcs[(227:Nat)]?=some Tryz.f227)(args:Array aj):Go.Lag.Calm P Go.Lag.eP (fG (227:Nat) args):=by
 have h1:cZ Tryz.f227=none:=kN;have h2:fJ Tryz.f227=none:=lh.1 kN;have h3:Tryz.f227.body=none:=kN
 have h4:(Tryz.f227.name == "runtime.NumGoroutine")=false:=kN;refine fQ (P:=P) (f:=(227:Nat)) (fn:=Tryz.f227) hP h3 h4 h1 ⟨fun x hx=>?_⟩ args;rw[h2] at hx;cases hx
def acS{P:aL}(hP:P.funcs[(228:Nat)]?=some Tryz.f228)(args:Array aj):Go.Lag.Calm P Go.Lag.eP (fG (228:Nat) args):=by
 have h1:cZ Tryz.f228=none:=kN;have h2:fJ Tryz.f228=none:=lh.1 kN;have h3:Tryz.f228.body=none:=kN
 have h4:(Tryz.f228.name == "runtime.NumGoroutine")=false:=kN;refine fQ (P:=P) (f:=(228:Nat)) (fn:=Tryz.f228) hP h3 h4 h1 ⟨fun x hx=>?_⟩ args;rw[h2] at hx;cases hx
def acR{P:aL}(hP:P.funcs[(229:Nat)]?=some Tryz.f229)(args:Array aj):Go.Lag.Calm P Go.Lag.eP (fG (229:Nat) args):=by
 have h1:cZ Tryz.f229=none:=kN;have h2:fJ Tryz.f229=none:=lh.1 kN;have h3:Tryz.f229.body=none:=kN
 have h4:(Tryz.f229.name == "runtime.NumGoroutine")=false:=kN;refine fQ (P:=P) (f:=(229:Nat)) (fn:=Tryz.f229) hP h3 h4 h1 ⟨fun x hx=>?_⟩ args;rw[h2] at hx;cases hx
def bl:List Nat:=[0,1,202,203,204,205,206,207,208,209,210,211,212,213,214,215,216,217,227,228,229]
def Tp:(aQ Tryz.prog.funcs.size).all (fun i=>(Tryz.prog.funcs[i]?.all (fun fn=>fn.body.isSome))||bl.contains i)=true:=kN
def acA{P:aL}(e:P.funcs=Tryz.prog.funcs)(f:dU)(fn:Func)(args:Array aj)(hf:P.funcs[f]?=some fn)(hb:fn.body=none):Go.Lag.Calm P Go.Lag.eP (fG f args):=by
 rw[e] at hf;have hlt:f<Tryz.prog.funcs.size:=(ah.1 hf).1;have h:=bf.1 Tp f (List.mem_range.2 hlt);rw[hf] at h;simp only[Option.all_some,hb,Option.isSome_none,Bool.false_or] at h;have hm:f∈bl:=by simpa using h
 clear hf h hlt;have hx:∀(n:Nat) (fN:Func),Tryz.prog.funcs[n]?=some fN->P.funcs[n]?=some fN:=fun n fN h=>by rw[e];exact h
 clear e;simp only[bl,cy,gJ,or_false] at hm;rcases hm with rfl|rfl|rfl|rfl|rfl|rfl|rfl|rfl|rfl|rfl|rfl|rfl|rfl|rfl|rfl|rfl|rfl|rfl|rfl|rfl|rfl
 .exact nb0 (hx _ _ Tryz.func0) args
 .exact nb1 (hx _ _ Tryz.func1) args
 .exact ac9 (hx _ _ Tryz.func202) args
 .exact ac8 (hx _ _ Tryz.func203) args
 .exact ac7 (hx _ _ Tryz.func204) args
 .exact ac6 (hx _ _ Tryz.func205) args
 .exact ac5 (hx _ _ Tryz.func206) args
 .exact ac4 (hx _ _ Tryz.func207) args
 .exact ac3 (hx _ _ Tryz.func208) args
 .exact ac2 (hx _ _ Tryz.func209) args
 .exact ac1 (hx _ _ Tryz.func210) args
 .exact ac0 (hx _ _ Tryz.func211) args
 .exact acZ (hx _ _ Tryz.func212) args
 .exact acY (hx _ _ Tryz.func213) args
 .exact acX (hx _ _ Tryz.func214) args
 .exact acW (hx _ _ Tryz.func215) args
 .exact acV (hx _ _ Tryz.func216) args
 .exact acU (hx _ _ Tryz.func217) args
 .exact acT (hx _ _ Tryz.func227) args
 .exact acS (hx _ _ Tryz.func228) args
 exact acR (hx _ _ Tryz.func229) args
end Go.Proofs.YtffladgmkiimjaaGreatDoor
namespace Go.Lag
def ob{α β:Type}{x:Option α}{f:α->Option β}{b:β}(h:(x >>= f)=some b):∃a,x=some a/\f a=some b:=by
 cases x with
 |none=>cases h
 |some a=>exact⟨a,rfl,h⟩
def vu{info:aZ->Option TypeInfo}{fs:Array Field}{i:TypeInfo}(h:Made.reckonStruct info fs=some i):i.methods = #[]:=by
 unfold Made.reckonStruct at h;obtain⟨s,_,h⟩:=ob h;dsimp only at h;split at h<;>(cases h;rfl)
def D8{info:aZ->Option TypeInfo}{d:TypeDesc}{i:TypeInfo}(h:Made.reckon info d=some i):i.methods = #[]:=by
 cases d with
 |pointer e=>
  simp only[Made.reckon] at h;obtain⟨j,_,h⟩:=ob h;split at h
  .cases h
  .split at h
   .cases h
   obtain⟨s,_,h⟩:=ob h;cases h;rfl
  obtain⟨s,_,h⟩:=ob h;cases h;rfl
 |slice e=>
  simp only[Made.reckon] at h;obtain⟨j,_,h⟩:=ob h;obtain⟨s,_,h⟩:=ob h;cases h;rfl
 |map k e=>
  simp only[Made.reckon] at h;obtain⟨j,_,h⟩:=ob h;obtain⟨s,_,h⟩:=ob h;obtain⟨j,_,h⟩:=ob h;obtain⟨s,_,h⟩:=ob h;cases h;rfl
 |chan dir e=>
  simp only[Made.reckon] at h;obtain⟨j,_,h⟩:=ob h;obtain⟨s,_,h⟩:=ob h;cases dir<;>(cases h;rfl)
 |func ps rs v=>
  simp only[Made.reckon] at h;obtain⟨j,_,h⟩:=ob h;cases h;rfl
 |array n e=>
  simp only[Made.reckon] at h;obtain⟨j,_,h⟩:=ob h;obtain⟨s,_,h⟩:=ob h;cases h;rfl
 |struct fs=>exact vu (by simpa only[Made.reckon] using h)
 |_=>cases h
def Jo{T:Tables}{t:aZ}{i:TypeInfo}(h:T.info? t=some i):T.types[t]?=some i\/i.methods = #[]:=by
 unfold Tables.info? at h;split at h
 .exact .inl h
 .right;generalize Made.depth=n at h;cases n with
  |zero=>cases h
  |succ n=>
   unfold Made.infoAt at h;split at h
   .contradiction
   .cases hd:Made.decode (t-T.types.size) with
    |none=>rw[hd] at h;cases h
    |some d=>rw[hd] at h;exact D8 h
section
variable{P:aL}
theorem lJ{α β:Type}{x:Sem α}{f:α->Sem β}{w w':ak}{b:β}(h:(x >>= f).run P w=.ok b w'):∃a w1,x.run P w=.ok a w1/\(f a).run P w1=.ok b w':=by
 have h1:=Sem.runT_fst P (x >>= f) w #[];rw[h] at h1;have e:(x >>= f).runT P w #[]=(x.bind f).runT P w #[]:=rfl;rw[e,GV] at h1;have h2:=Sem.runT_fst P x w #[];generalize hx:x.runT P w #[]=r at h1 h2;obtain⟨r,es⟩:=r;cases r with
 |ok a w1=>
  refine⟨a,w1,h2.symm,?_⟩;have h3:=Sem.runT_fst P (f a) w1 es;rw[<-h3];exact h1
 |halt e w1=>cases h1
def MG(P:aL)(bl:List Nat):Prop:=∀t i m,P.info? t=some i->m∈i.methods->(m.name = "Error"\/m.name = "String")->∀f b,m.func=some (f,b)->f∈bl
theorem Cc{bl:List Nat}(q:MG P bl){name:String}(hn:name = "Error"\/name = "String"):∀(fuel:Nat) (t:aZ) (v:aj) (w w':ak) (f:dU) (r:aj),(Go.method fuel t v name).run P w=.ok (f,r) w'->f∈bl
 |0,t,v,w,w',f,r,h=>by cases h
 |fuel+1,t,v,w,w',f,r,h=>by
  unfold Go.method at h;obtain⟨i,w1,h1,h⟩:=lJ h
  have hi:P.info? t=some i:=by
   unfold typeInfo at h1;obtain⟨p,w2,h2,h1⟩:=lJ h1
   have hp:p=P:=by
    have:(Go.program).run P w=.ok P w:=rfl;rw[this] at h2;cases h2;rfl
   subst hp;cases hh:p.info? t with
   |none=>rw[hh] at h1;cases h1
   |some j=>rw[hh] at h1;cases h1;rfl
  cases hm:i.methods.find? (·.name==name) with
  |none=>rw[hm] at h;cases h
  |some m=>
   rw[hm] at h;dsimp only at h;have hmem:m∈i.methods:=Array.mem_of_find?_eq_some hm;have hname:m.name=name:=by simpa using Array.find?_some hm
   obtain⟨⟨xt,x⟩,w2,h2,h⟩:=lJ h;dsimp only at h;cases hf:m.func with
   |none=>
    rw[hf] at h;dsimp only at h;obtain⟨y,w3,h3,h⟩:=lJ h;cases y<;>first|exact Cc q hn fuel _ _ _ _ _ _ h|(cases h)
   |some fb=>
    obtain⟨f0,b0⟩:=fb;rw[hf] at h;dsimp only at h;obtain⟨y,w3,h3,h⟩:=lJ h;cases h;exact q t i m hi hmem (by rw[hname];exact hn) _ _ hf
theorem Eh{v:aj}{t:aZ}{recv:aj}{name:String}(h:panicText P false v=.call t recv name):name = "Error"\/name = "String":=by
 unfold panicText at h;split at h
 .split at h
  .cases h
  rename_i t' v' info ajS;simp only[bE,if_false] at h;split at h
  .rename_i m hm;injection h with _ _ h3
   have:=Array.find?_some hm;simp only[aF,beq_iff_eq] at this;exact .inl (h3▸this.1)
  .rename_i m _ hm;injection h with _ _ h3
   have:=Array.find?_some hm;simp only[aF,beq_iff_eq] at this;exact .inr (h3▸this.1)
  split at h
  .cases h
  split at h<;>first|(cases h;done)|(split at h<;>cases h)
 all_goals first|cases h|(split at h<;>cases h)
theorem KY{bl:List Nat}(q:MG P bl)(hb:∀f∈bl,∃fn,P.funcs[f]?=some fn/\fn.body=none/\(cZ fn).isNone=true)(todo:List (aj × String)):NoEnter P todo:=by
 intro x _ t recv name hp w f args w' h;have hn:=Eh hp;rw[Sem.runT_fst] at h;have h':(callMethod (.iface t recv) name (#[Value.iface t recv].extract 1 #[Value.iface t recv].size)).run P w=.ok (.enter f args) w':=h;unfold callMethod at h';dsimp only at h';obtain⟨p,w1,h1,h'⟩:=lJ h';obtain⟨⟨F,r⟩,w2,h2,h'⟩:=lJ h';obtain⟨fn,hf,hbo,hx⟩:=hb F (Cc q hn _ _ _ _ _ _ _ h2);exact callFunc_not_enter hf hbo hx _ _ _ _ _ h'
end
end Go.Lag
namespace Go.Proofs.YtffladgmkiimjaaGreatDoor
open Go.Lag
def O7(m:Method):Bool:=m.name == "Error" || m.name == "String"
def Wv:Tryz.prog.types.all (fun i=>i.methods.all fun m=>!O7 m||match m.func with | some (f,_)=>bl.contains f | none=>true)=true:=kN
def Zv:bl.all (fun f=>(Tryz.prog.funcs[f]?.any fun fn=>fn.body.isNone&&(cZ fn).isNone))=true:=kN
def Ww:Tryz.prog.funcs.any (fun fn=>(fn.body.map readies).any fun l=>!l.isEmpty)=false:=kN
def quiet_of{P:aL}(e:P=aq):Quiet P:=by
 refine { body:=fun f fn c hf hc=>?_,ext:=fun f fn args hf hb=>acA (by rw[e]) f fn args hf hb,name:=fun f fn hf=>?_,ahead:=by rw[e];exact Wx,steps:=fun g=>?_,enters:=fun todo=>?_ }
 .rw[e] at hf;have:=ko.1 Tq fn (eV hf);rw[hc] at this;exact this
 .rw[e] at hf;have:=ko.1 Pm fn (eV hf);simpa using this
 .unfold Program.stepOf;rw[Array.findIdx?_eq_none_iff];intro fn hfn;rw[e] at hfn;have:=Array.any_eq_false'.1 Ww fn hfn;cases hb:fn.body with
  |none=>rfl
  |some c=>
   rw[hb] at this;simp only[dJ,Option.any_some] at this ⊢;have h2:readies c=[]:=by simpa using this
   rw[h2];rfl
 refine KY (bl:=bl) (fun t i m hi hm hn f b hf=>?_) (fun f hf=>?_) todo
 .rcases Jo hi with h|h
  .rw[e] at h;have h1:=ko.1 Wv i (eV h);have h2:=ko.1 h1 m hm
   have h3:O7 m=true:=by
    rcases hn with h|h<;>simp[O7,h]
   rw[h3,hf] at h2;simpa using h2
  rw[h] at hm;simp at hm
 .have h1:=bf.1 Zv f hf;cases hx:Tryz.prog.funcs[f]? with
  |none=>rw[hx] at h1;cases h1
  |some fn=>
   rw[hx] at h1;simp only[Option.any_some,aF,lh] at h1;exact⟨fn,by rw[e];exact hx,h1.1,by simp[h1.2]⟩
def quiet:Quiet Tryz.prog:=quiet_of rfl
def fw:Nat->Bool:=fun f=>[155,97,99,162,105,165,118,114,115,138,139,170,171,178].contains f
def af1:[155,97,99,162,105,165,118,114,115,138,139,170,171,178].all (fun f=>(Tryz.prog.funcs[f]?.any fun fn=>fn.body.any fun c=>iG aq fw c))=true:=kN
def LQ{P:aL}(e:P=aq):uL P fw:=by
 refine⟨fun f hf=>?_⟩;have hm:f∈[155,97,99,162,105,165,118,114,115,138,139,170,171,178]:=by simpa [fw] using hf
 have h1:=bf.1 af1 f hm;cases hx:Tryz.prog.funcs[f]? with
 |none=>rw[hx] at h1;cases h1
 |some fn=>
  rw[hx] at h1;simp only[Option.any_some] at h1;cases hb:fn.body with
  |none=>rw[hb] at h1;cases h1
  |some c=>
   rw[hb] at h1;simp only[Option.any_some] at h1;refine⟨fn,c,by rw[e];exact hx,hb,by rw[e];exact h1,?_⟩;have:=ko.1 Pm fn (eV hx);simpa using this
end Go.Proofs.YtffladgmkiimjaaGreatDoor
namespace Go.Lag
open Go.Conc
open Classical in
noncomputable def shut (X:Nat->Prop) (w:ak):World:=
 { w with heap:=w.heap.mapIdx fun b o=>if X b then(match o with|.cells cs e z=>.cells cs e (0,max cs.size z.2)|_=>.coro none) else .coro none }
open Classical in
noncomputable def x_ (X:Nat->Prop):Rn:=fun b=>if X b then some b else none
section
variable{F:Nat->Bool}{G:Nat}{X Y:Nat->Prop}{w:ak}
theorem pO{b c:Nat}:x_ X b=some c↔X b/\c=b:=by
 unfold x_;split
 .rename_i h;simp[h,eq_comm]
 rename_i h;simp[h]
theorem vD{b:Nat}(h:X b):x_ X b=some b:=pO.2 ⟨h,rfl⟩
theorem sX(h:∀b,X b->Y b):Rn.le (x_ X) (x_ Y):=fun b c hb=>by
 obtain⟨h1,h2⟩:=pO.1 hb;exact pO.2 ⟨h b h1,h2⟩
theorem v_:(shut X w).heap.size=w.heap.size:=by simp[shut]
theorem DJ{b:Nat}{cs:Array aj}{e:aZ}{z:Nat × Nat}(h:w.heap[b]?=some (.cells cs e z))(hX:X b):(shut X w).heap[b]?=some (.cells cs e (0,max cs.size z.2)):=by
 simp[shut,Array.getElem?_mapIdx,h,hX]
theorem wa{a:cJ}(hX:X a.block):(shut X w).cell? a=w.cell? a:=by
 unfold World.cell?;cases h:w.heap[a.block]? with
 |none=>
  have:(shut X w).heap[a.block]?=none:=by simp[shut,Array.getElem?_mapIdx,h]
  rw[this]
 |some o=>
  cases o with
  |cells cs e z=>rw[DJ h hX]
  |_=>
   have:(shut X w).heap[a.block]?=some (.coro none):=by simp[shut,Array.getElem?_mapIdx,h,hX]
   rw[this]
theorem Pd:dv (shut X w):=by
 intro b o h;simp only[shut,Array.getElem?_mapIdx] at h;cases hb:w.heap[b]? with
 |none=>rw[hb] at h;cases h
 |some x=>
  rw[hb] at h;simp only[dJ,gP] at h;subst h;split
  .cases x<;>first|exact .inl rfl|exact .inr rfl
  exact .inr rfl
def Closed(F:Nat->Bool)(X:Nat->Prop)(w:ak):Prop:=∀b,X b->∃cs e z,w.heap[b]?=some (.cells cs e z)/\∀v∈cs,VR F (x_ X) v v
theorem Closed.lt(h:Closed F X w){b:Nat}(hb:X b):b<w.heap.size:=by
 obtain⟨cs,e,z,h1,_⟩:=h b hb;exact eJ h1
theorem Pc(h:Closed F X w)(hG:∀b,X b->G<=b):WR F G (fun b=>b<w.heap.size) (x_ X) (shut X w) w:=by
 refine⟨fun a b c ha hb=>?_,fun b c hb=>?_,fun b hb=>by rw[v_];exact hb,fun b c hb=>?_,fun b o hb=>?_⟩
 .rw[<-(pO.1 ha).2,(pO.1 hb).2]
 .obtain⟨h1,rfl⟩:=pO.1 hb;exact⟨hG _ h1,hG _ h1⟩
 .obtain⟨h1,rfl⟩:=pO.1 hb;obtain⟨cs,e,z,h2,h3⟩:=h c h1;refine⟨_,_,DJ h2 h1,h2,.cells ⟨rfl,fun i x y hx hy=>?_⟩ (fun i h4 h5=>⟨iq _,by simp only;omega⟩),fun _=>⟨cs,e,_,rfl,oN⟩⟩;rw[hx] at hy;cases hy;exact h3 x (eV hx)
 .simp only[shut,Array.getElem?_mapIdx] at hb;cases hx:w.heap[b]? with
  |none=>rw[hx] at hb;cases hb
  |some x=>
   rw[hx] at hb;simp only[dJ,gP] at hb;subst hb;split
   .cases x<;>rfl
   rfl
theorem BJ(h:Closed F X w)(c:Nat):X c↔∃b,b<w.heap.size/\x_ X b=some c:=by
 constructor
 .intro hc;exact⟨c,h.lt hc,vD hc⟩
 rintro⟨b,_,hb⟩;obtain⟨h1,rfl⟩:=pO.1 hb;exact h1
theorem Hh(h:Closed F X w):(x_ X).owns (fun b=>b<w.heap.size)=fun _=>False:=by
 funext c
 refine propext ⟨fun⟨b,h1,h2⟩=>?_,fun h=>h.elim⟩;exact h1 (h.lt (pO.1 h2).1)
end
section
variable{P:aL}{main:Bool}{S O:Nat->Prop}{fn:dU}{tmps:Array aj}{kd:ki}{k:List Item}{cs:List bT}{w:ak}{aM:Array cI}
theorem Ei(O:Nat->Prop)(w:ak):own O w w=O:=by
 funext c
 refine propext ⟨fun h=>h.elim id fun h=>absurd h.1 oN,.inl⟩
theorem EY(S O:Nat->Prop)(w:ak){es:Array gq}(h:∀e∈es,SZ (fun c=>S c\/O c) O e):J8 S O w w es:=
 ⟨aJ _,fun _ _ _=>rfl,rfl,aJ _,rfl,rfl,by rw[Ei];exact h⟩
theorem gU.one{c0 c1:Nat}{p:aj}{b:Bool}{g:aC}(hr:g.status=.running)(hd:g.dying=none)
  (h:∀w1,iO (fun c=>S c\/O c) w w1->∃g' es,fe P false g w1=.go g' w1 es/\(∀e∈es,SZ (fun c=>S c\/O c) O e)/\g'.status=.running/\g'.dying=none/\gU P c0 c1 S p b O g' w1):gU P c0 c1 S p b O g w:=by
 refine .step hr hd (fun w1 h1=>?_) fun w1 h1 g2 w2 es he=>?_
 .obtain⟨g',es,e,hev,h2,h3,_⟩:=h w1 h1;exact⟨g',w1,es,e,EY S O w1 hev,h2,h3⟩
 obtain⟨g',es',e,_,_,_,h4⟩:=h w1 h1;rw[e] at he;injection he with e1 e2 e3
 subst e1;subst e2;rw[Ei];exact h4
theorem gU.ctl{c0 c1:Nat}{p:aj}{b:Bool}{g g':aC}(hr:g.status=.running)(hd:g.dying=none)(h:∀w,fe P false g w=.go g' w #[])(hr':g'.status=.running)(MZ:g'.dying=none)
  (hk:gU P c0 c1 S p b O g' w):gU P c0 c1 S p b O g w:=
 .one hr hd fun w1 h1=>⟨g',#[],h w1,sN,hr',MZ,hk.rely _ _ _ h1⟩
theorem gG.one{c0 c1:Nat}{z0 z1:aj}{Fin:List aj->List aj->(Nat->Prop)->(Nat->Prop)->aC->ak->Prop}{f m:Nat}{acc out:List aj}{g:aC}(hr:g.status=.running)(hd:g.dying=none)
  (h:∀w1,iO (fun c=>S c\/O c) w w1->∃g' es,fe P true g w1=.go g' w1 es/\(∀e∈es,SZ (fun c=>S c\/O c) O e)/\g'.status=.running/\g'.dying=none/\gG P c0 c1 z0 z1 Fin f m acc out S O g' w1):gG P c0 c1 z0 z1 Fin f m acc out S O g w:=by
 refine .step hr hd (fun w1 h1=>?_) fun w1 h1 g2 w2 es he=>?_
 .obtain⟨g',es,e,hev,h2,h3,_⟩:=h w1 h1;exact⟨g',w1,es,e,EY S O w1 hev,h2,h3⟩
 obtain⟨g',es',e,_,_,_,h4⟩:=h w1 h1;rw[e] at he;injection he with e1 e2 e3
 subst e1;subst e2;rw[Ei];exact h4
theorem gG.ctl{c0 c1:Nat}{z0 z1:aj}{Fin:List aj->List aj->(Nat->Prop)->(Nat->Prop)->aC->ak->Prop}{f m:Nat}{acc out:List aj}{g g':aC}(hr:g.status=.running)(hd:g.dying=none)(h:∀w,fe P true g w=.go g' w #[])(hr':g'.status=.running)(MZ:g'.dying=none)
  (hk:gG P c0 c1 z0 z1 Fin f m acc out S O g' w):gG P c0 c1 z0 z1 Fin f m acc out S O g w:=
 .one hr hd fun w1 h1=>⟨g',#[],h w1,sN,hr',MZ,hk.rely h1⟩
theorem Walk.keep{Stop:(Nat->Prop)->aC->ak->Prop}{O:Nat->Prop}{g:aC}{w:ak}(h:Walk P main S Stop O g w):∀w0:ak,(∀c,S c->c<w.heap.size/\¬O c/\w.heap[c]?=w0.heap[c]?)->
  Walk P main S (fun O g w'=>Stop O g w'/\∀c,S c->c<w'.heap.size/\¬O c/\w'.heap[c]?=w0.heap[c]?) O g w:=by
 induction h with
 |@stop O g w h=>
  intro w0 hk;refine .stop fun w1 hr=>⟨h w1 hr,fun c hc=>?_⟩
  obtain⟨h1,h2,h3⟩:=hk c hc;exact⟨bD h1 hr.grow,h2,(hr.keep c (.inl hc)).trans h3⟩
 |@step O g w a b c d ih=>
  intro w0 hk;refine .step a b c fun w1 hr g2 w2 es he=>ih w1 hr g2 w2 es he w0 fun x hx=>?_;obtain⟨h1,h2,h3⟩:=hk x hx;obtain⟨g3,w3,es3,he3,xp,_,_⟩:=c w1 hr;rw[he] at he3;injection he3 with e1 e2 e3
  subst e2;have hlt:x<w1.heap.size:=bD h1 hr.grow;refine⟨bD hlt xp.grow,fun ho=>ho.elim h2 fun hn=>by omega,?_⟩;rw[xp.keep x hlt h2,hr.keep x (.inl hx)];exact h3
theorem iY{w w':ak}{a:cJ}(h:w'.heap[a.block]?=w.heap[a.block]?):w'.cell? a=w.cell? a:=by
 unfold World.cell?;rw[h]
abbrev GK(fn:dU)(tmps:Array aj)(k:List Item)(kd:ki)(cs:List bT):Goroutine:=G (jm fn tmps k .run kd) cs
theorem jN(a b:gQ)(w:ak):fe P main (GK fn tmps (.code (.seq a b)::k) kd cs) w=.go (GK fn tmps (.code a::.code b::k) kd cs) w #[]:=rfl
theorem qd(id:Nat)(c:gQ)(w:ak):fe P main (GK fn tmps (.code (.block id c)::k) kd cs) w=.go (GK fn tmps (.code c::.inBlock id::k) kd cs) w #[]:=rfl
theorem Mc(c:gQ)(w:ak):fe P main (GK fn tmps (.code (.loop c)::k) kd cs) w=.go (GK fn tmps (.code c::.inLoop c::k) kd cs) w #[]:=rfl
theorem yl(c:gQ)(w:ak):fe P main (GK fn tmps (.inLoop c::k) kd cs) w=.go (GK fn tmps (.code c::.inLoop c::k) kd cs) w #[]:=rfl
theorem oU(id:Nat)(w:ak):fe P main (GK fn tmps (.inBlock id::k) kd cs) w=.go (GK fn tmps k kd cs) w #[]:=rfl
theorem zT(w:ak):fe P main (GK fn tmps (.code .skip::k) kd cs) w=.go (GK fn tmps k kd cs) w #[]:=rfl
theorem ub(id:Nat)(aM:Array cI)(w:ak):fe P main (GK fn tmps (.code (.region id aM false)::k) kd cs) w=.go (GK fn tmps (.inRegion aM (aQ aM.size)::k) kd cs) w #[]:=rfl
theorem oB(aM:Array cI)(w:ak):fe P main (GK fn tmps (.inRegion aM []::k) kd cs) w=.go (GK fn tmps k kd cs) w #[]:=rfl
theorem tk{c:bI}{a b:gQ}{x:Bool}(h:(jm fn tmps (.code (.cond c a b)::k) .run kd).eval c=.bool x)(w:ak):fe P main (GK fn tmps (.code (.cond c a b)::k) kd cs) w=.go (GK fn tmps (.code (if x then a else b)::k) kd cs) w #[]:=by
 have e:fe P main (GK fn tmps (.code (.cond c a b)::k) kd cs) w=(match (jm fn tmps (.code (.cond c a b)::k) .run kd).eval c with
     |.bool x=>.go (GK fn tmps (.code (if x then a else b)::k) kd cs) w
     |_=>.ended (.stuck "cond: bool expected" ((jm fn tmps (.code (.cond c a b)::k) .run kd).pos P)) w):=rfl
 rw[e,h]
theorem Fe{id:Nat}{k':List Item}(h:exitTo id k=some k')(w:ak):fe P main (GK fn tmps (.code (.exit id)::k) kd cs) w=.go (GK fn tmps k' kd cs) w #[]:=by
 show(exitTo id k).elim _ _=_;rw[h];rfl
theorem O_{i:Nat}{rest:List Nat}{o:cI}(CY:kd≠.early)(ho:aM[i]?=some o)(hg:o.guard=none){v:aj}{w w2:ak}{es:Array gq}
  (h:(cu (jm fn tmps (.inRegion aM (i::rest)::k) .run kd).eval o).runT P w #[]=(.ok (.value v) w2,es)) :
  fe P main (GK fn tmps (.inRegion aM (i::rest)::k) kd cs) w=.go (GK fn (match o.dst with|some d=>tmps.setIfInBounds d v|none=>tmps) (.inRegion aM rest::k) kd cs) w2 (seen P fn es):=by
 have hw:((aM[i]?).map (cL · (yielded aM tmps))).getD false=true:=by rw[ho];simp[cL,hg]
 have Xy:(kd == .early)=false:=beq_eq_false_iff_ne.2 CY;have e1:fe P main (GK fn tmps (.inRegion aM (i::rest)::k) kd cs) w=eW P true (jm fn tmps (.inRegion aM (i::rest)::k) .run kd) cs none w:=if_pos hw
 have e2:eW P true (jm fn tmps (.inRegion aM (i::rest)::k) .run kd) cs none w=ek P true (jm fn tmps (.inRegion aM (i::rest)::k) .run kd) cs none (cu (jm fn tmps (.inRegion aM (i::rest)::k) .run kd).eval o) w:=by
  unfold eW;have:(jm fn tmps (.inRegion aM (i::rest)::k) .run kd).oper?=some o:=ho;rw[this];rfl
 rw[e1,e2];unfold ek;simp only[if_true,h];simp only[jm,Xy,bE,if_false,GStep.after,dZ,Frame.finish,ho,gI];rfl
def wB(P:aL)(t:aZ):Bool:=match P.underlying t with|some (.struct _)|some (.array ..)|none=>false|_=>true
theorem QD{t:aZ}(ht:wB P t=true){a:cJ}{v:aj}{w:ak}(hc:w.cell? a=some v)(es:Array gq):(mG t (.pointer (some a))).runT P w es=(.ok v w,es.push ⟨.cell a,false,false⟩):=by
 have h1:∃d,P.underlying t=some d/\(∀fs,d≠.struct fs)/\∀n e,d≠.array n e:=by
  unfold wB at ht;cases hd:P.underlying t with
  |none=>rw[hd] at ht;cases ht
  |some d=>rw[hd] at ht;exact⟨d,rfl,(fun fs e=>by subst e;cases ht),(fun n e' e=>by subst e;cases ht)⟩
 obtain⟨d,hd,h2,h3⟩:=h1
 have h4:(isAgg t).runT P w es=(.ok false w,es):=by
  show(((Sem.program fun p=>Sem.pure p).bind fun p=>(match p.underlying t with|some d=>(eQ d:Sem TypeDesc)|none=>stuck "no such type")).bind fun d=>(match d with|.struct _|.array _ _=>(eQ true:Sem Bool)|_=>eQ false)).runT P w es=_;simp only[Sem.bind,Sem.runT,hd];cases d<;>first|rfl|exact absurd rfl (h2 _)|exact absurd rfl (h3 _ _)
 show((loadVar t a)).runT P w es=_;unfold loadVar;show((isAgg t).bind _).runT P w es=_;rw[GV,h4];simp only[bE,if_false];show(Sem.load .plain a .pure).runT P w es=_;simp only[Sem.runT,hc];rfl
theorem Ax{i:Nat}{rest:List Nat}{o:cI}{d:Tmp}{t:aZ}{x:bI}(CY:kd≠.early)(ho:aM[i]?=some o)(hop:o.op=.load t x)(hd:o.dst=some d)(hg:o.guard=none)(ht:wB P t=true){a:cJ}
  (hx:(jm fn tmps (.inRegion aM (i::rest)::k) .run kd).eval x=.pointer (some a)) {v:aj} {w:ak} (hc:w.cell? a=some v) :
  fe P main (GK fn tmps (.inRegion aM (i::rest)::k) kd cs) w=.go (GK fn (tmps.setIfInBounds d v) (.inRegion aM rest::k) kd cs) w (seen P fn #[⟨.cell a,false,false⟩]):=by
 obtain⟨dst,op,type,pos,after,guard⟩:=o;dsimp only at hop hd hg;subst hop;subst hd;subst hg;refine O_ CY ho rfl ?_;show((mG t ((jm fn tmps (.inRegion aM (i::rest)::k) .run kd).eval x)).bind fun v=>eQ (Next.value v)).runT P w #[]=_;rw[hx,GV,QD ht hc];rfl
theorem E7{a:cJ}(hS:S a.block)(fn:dU):∀e∈seen P fn #[⟨.cell a,false,false⟩],SZ (fun c=>S c\/O c) O e:=fun e he=>by
 have:=mem_seen he;simp only[eR,kh] at this;subst this;exact .inl ⟨a,rfl,rfl,.inl hS,sN⟩
theorem Hf{i:Nat}{rest:List Nat}{o:cI}{x y:bI}(CY:kd≠.early)(ho:aM[i]?=some o)(hop:o.op=.send x y)(hg:o.guard=none){c:Nat}{v:aj}
  (hx:(jm fn tmps (.inRegion aM (i::rest)::k) .run kd).eval x=.chan (some c)) (hy:(jm fn tmps (.inRegion aM (i::rest)::k) .run kd).eval y=v):AtSend P c v (GK fn tmps (.inRegion aM (i::rest)::k) kd cs):=by
 refine⟨rfl,rfl,rfl,fun w=>?_⟩;have hw:((aM[i]?).map (cL · (yielded aM tmps))).getD false=true:=by rw[ho];simp[cL,hg]
 have Xy:(kd == .early)=false:=beq_eq_false_iff_ne.2 CY;have e1:fe P false (GK fn tmps (.inRegion aM (i::rest)::k) kd cs) w=eW P true (jm fn tmps (.inRegion aM (i::rest)::k) .run kd) cs none w:=if_pos hw;rw[e1]
 have e2:cu (jm fn tmps (.inRegion aM (i::rest)::k) .run kd).eval o=eQ (Next.comm #[nP c v zS] true .send):=by
  unfold cu;rw[hop];simp only[hx,hy];rfl
 have e3:eW P true (jm fn tmps (.inRegion aM (i::rest)::k) .run kd) cs none w=ek P true (jm fn tmps (.inRegion aM (i::rest)::k) .run kd) cs none (cu (jm fn tmps (.inRegion aM (i::rest)::k) .run kd).eval o) w:=by
  unfold eW;have:(jm fn tmps (.inRegion aM (i::rest)::k) .run kd).oper?=some o:=ho;rw[this];rfl
 rw[e3,e2];unfold ek;simp only[if_true,jm,Xy,bE,if_false];rfl
theorem BL{i:Nat}{rest:List Nat}{o:cI}(ho:aM[i]?=some o)(hd:o.dst=none):fg (GK fn tmps (.inRegion aM (i::rest)::k) kd cs) ar=GK fn tmps (.inRegion aM rest::k) kd cs:=by
 simp only[fg,GK,G,jm,Frame.finish,ho,hd,gI]
def wH(P:aL)(f:dU)(captured:Array aj):Goroutine:=
 { frame:={ (default:bT) with fn:=P.funcs.size,defers:=[{ target:=.fn (.func f) captured,args:=#[] }],mode:=.panicking [goexitEntry] },callers:=[],status:=.running,dying:=none }
def mW(P:aL):Frame:={ (default:bT) with fn:=P.funcs.size,defers:=[],mode:=.panicking [goexitEntry] }
theorem Nb{f:dU}{func:Func}{c:gQ}(hf:P.funcs[f]?=some func)(hb:func.body=some c)(hn:(func.name == "runtime.NumGoroutine")=false)(captured:Array aj)(w:ak) :
  fe P false (wH P f captured) w=.go (GK f (captured++bz (func.ntmps-captured.size) ar) [.code c] .deferred [mW P]) w #[]:=by
 have h1:(invoke (.fn (.func f) captured) #[]).runT P w #[]=(.ok (.enter f captured) w,#[]):=by
  show(fG f (#[]++captured)).runT P w #[]=_;unfold fG;show((Sem.program .pure).bind _).runT P w #[]=_;simp only[Sem.bind,Sem.runT];rw[hf];have h4:func.body.isNone=false:=by rw[hb];rfl
  simp only[hn,h4,bE,if_false,Array.empty_append];rfl
 show l_ P false (wH P f captured).frame [] none w=_;unfold l_;dsimp only[wH];unfold callDeferred;simp only[h1];simp only[Bool.false_and,bE,if_false,Frame.enter,hf,dJ,Option.getD_some,gI,hb];rfl
theorem QK{f:dU}{func:Func}(hf:P.funcs[f]?=some func)(hr:func.results = #[]):QuitsD P 5 0 (GK f tmps [.inRegion aM []] .deferred [mW P]):=by
 have hd:deafBehind 0 #[]=0:=rfl;refine .inr ⟨rfl,GK f tmps [] .deferred [mW P],#[],sN,fun w=>rfl,?_⟩;refine .inr ⟨rfl,G (jm f tmps [] .returning .deferred) [mW P],#[],sN,fun w=>rfl,?_⟩;refine .inr ⟨rfl,G (mW P) [],#[],sN,fun w=>?_,?_⟩
 .show l_ P false (jm f tmps [] .returning .deferred) [mW P] none w=_;unfold l_
  have h1:(results func tmps).runT P w #[]=(.ok (.tuple #[]) w,#[]):=by
   unfold results;rw[hr,o9];rfl
  simp only[jm,hf,h1];rfl
 refine .inr ⟨rfl,{ frame:=mW P,callers:=[],status:=.finished,dying:=none },#[],sN,fun w=>?_,?_⟩
 .show l_ P false (mW P) [] none w=_;unfold l_;have h2:P.funcs[P.funcs.size]?=none:=Array.getElem?_eq_none (aJ _);have h3:(default:bT).todo=[]:=rfl;simp[mW,Frame.catches,h2,h3,goexitEntry]
 exact .inl ⟨rfl,rfl⟩
end
end Go.Lag
namespace Go.Proofs.YtffladgmkiimjaaGreatDoor
open Go.Lag
open Go.Conc
noncomputable def w0:Code:=match Tryz.f178.body with|some (.seq (.seq a _) _)=>a|_=>.skip
noncomputable def w1:Code:=match Tryz.f178.body with|some (.seq (.seq _ (.cond _ a _)) _)=>a|_=>.skip
noncomputable def w2:Code:=match Tryz.f178.body with|some (.seq _ a)=>a|_=>.skip
def opsOf:gQ->Array cI|.region _ aM _=>aM|_=>#[]
def X8:Tryz.f178.body=some (.seq (.seq w0 (.cond (.tmp 6) w1 .skip)) w2):=kN
def acj:w1=.region 1 (opsOf w1) false:=kN
def aci:w2=.region 2 (opsOf w2) false:=kN
def ack:iG aq fw w0=true:=kN
def Zq:dX w0=true:=kN
def ZE:wB aq 188=true:=kN
def ZC:wB aq 189=true:=kN
def ZF:wB aq 108=true:=kN
def Wc:(opsOf w1).size=3:=kN
def Wa:(opsOf w2).size=2:=kN
def Wh:(opsOf w1)[0]?=some ((opsOf w1).getD 0 default)/\((opsOf w1).getD 0 default).op=.load 188 (.tmp 2)/\((opsOf w1).getD 0 default).dst=some 7/\((opsOf w1).getD 0 default).guard=none:=⟨kN,kN,kN,kN⟩
def Wd:(opsOf w1)[1]?=some ((opsOf w1).getD 1 default)/\((opsOf w1).getD 1 default).op=.load 108 (.tmp 1)/\((opsOf w1).getD 1 default).dst=some 8/\((opsOf w1).getD 1 default).guard=none:=⟨kN,kN,kN,kN⟩
def S5:(opsOf w1)[2]?=some ((opsOf w1).getD 2 default)/\((opsOf w1).getD 2 default).op=.send (.tmp 7) (.tmp 8)/\((opsOf w1).getD 2 default).dst=none/\((opsOf w1).getD 2 default).guard=none:=⟨kN,kN,kN,kN⟩
def Wb:(opsOf w2)[0]?=some ((opsOf w2).getD 0 default)/\((opsOf w2).getD 0 default).op=.load 189 (.tmp 3)/\((opsOf w2).getD 0 default).dst=some 9/\((opsOf w2).getD 0 default).guard=none:=⟨kN,kN,kN,kN⟩
def S4:(opsOf w2)[1]?=some ((opsOf w2).getD 1 default)/\((opsOf w2).getD 1 default).op=.send (.tmp 9) (.const (.bool true))/\((opsOf w2).getD 1 default).dst=none/\((opsOf w2).getD 1 default).guard=none:=⟨kN,kN,kN,kN⟩
def Zt:Tryz.f178.results = #[]:=kN
def acO:Tryz.f178.ntmps=10:=kN
def acQ:(Tryz.f178.name == "runtime.NumGoroutine")=false:=kN
abbrev ptr(a:cJ):Value:=.pointer (some a)
def Kj(xa pa fa ta:cJ):Array Value:=#[ptr xa,ptr pa,ptr fa,ptr ta]++bz 6 ar
section
variable{P:aL}{X:Nat->Prop}{w:ak}{xa pa fa ta:cJ}{c0 c1:Nat}{p:aj}{s:Bool}{tmps:Array aj}{O:Nat->Prop}
structure WT(tmps:Array aj)(pa fa ta:cJ)(s:Bool):Prop where
 size:tmps.size=10
 p:tmps[1]?=some (ptr pa)
 f:tmps[2]?=some (ptr fa)
 t:tmps[3]?=some (ptr ta)
 s:tmps[6]?=some (.bool s)
theorem bt{i:Nat}{v:aj}(h:tmps[i]?=some v):tmps.getD i ar=v:=by
 rw[Array.getD_eq_getD_getElem?,h];rfl
theorem BH(e:P=aq)(hf:P.funcs[(178:Nat)]?=some Tryz.f178)(SG:X ta.block)(ht:w.cell? ta=some (.chan (some c1)))(hs:tmps.size=10)(h3:tmps[3]?=some (ptr ta)) :
  gU P c0 c1 X p false O (GK 178 tmps [.code w2] .deferred [mW P]) w:=by
 have CY:CallKind.deferred≠.early:=sN;rw[aci];refine .ctl rfl rfl (ub _ _) rfl rfl ?_;rw[Wa];show gU P c0 c1 X p false O (GK 178 tmps [.inRegion (opsOf w2) [0,1]] .deferred [mW P]) w;refine .one rfl rfl fun w' hr=>?_;have Z3:w'.cell? ta=some (.chan (some c1)):=(iY (hr.keep _ (.inl SG))).trans ht;refine⟨_,_,Ax CY Wb.1 Wb.2.1 Wb.2.2.1 Wb.2.2.2 (by rw[e];exact ZC) (a:=ta) (bt h3) Z3,E7 SG _,rfl,rfl,?_⟩;have h9:(tmps.setIfInBounds 9 (.chan (some c1)))[9]?=some (.chan (some c1)):=bg oN;refine .BM (n:=5) (Hf CY S4.1 S4.2.1 S4.2.2.2 (c:=c1) (v:=.bool true) (bt h9) rfl) ?_;rw[BL S4.1 S4.2.2.1];exact QK hf Zt
theorem Km(e:P=aq)(hf:P.funcs[(178:Nat)]?=some Tryz.f178)(YJ:X pa.block)(hfa:X fa.block)(SG:X ta.block)(hp:w.cell? pa=some p)(hfc:w.cell? fa=some (.chan (some c0)))(ht:w.cell? ta=some (.chan (some c1)))(h:WT tmps pa fa ta s) :
  gU P c0 c1 X p s O (GK 178 tmps [.code (.cond (.tmp 6) w1 .skip),.code w2] .deferred [mW P]) w:=by
 have CY:CallKind.deferred≠.early:=sN;refine .ctl rfl rfl (tk (x:=s) (bt h.s)) rfl rfl ?_;cases s with
 |false=>
  refine .ctl rfl rfl (fun w=>zT w) rfl rfl ?_;exact BH e hf SG ht h.size h.t
 |true=>
  show gU P c0 c1 X p true O (GK 178 tmps [.code w1,.code w2] .deferred [mW P]) w;rw[acj];refine .ctl rfl rfl (ub _ _) rfl rfl ?_;rw[Wc];show gU P c0 c1 X p true O (GK 178 tmps [.inRegion (opsOf w1) [0,1,2],.code w2] .deferred [mW P]) w;refine .one rfl rfl fun w' hr=>?_;have ahm:w'.cell? fa=some (.chan (some c0)):=(iY (hr.keep _ (.inl hfa))).trans hfc;have hp':w'.cell? pa=some p:=(iY (hr.keep _ (.inl YJ))).trans hp;have Z3:w'.cell? ta=some (.chan (some c1)):=(iY (hr.keep _ (.inl SG))).trans ht;refine⟨_,_,Ax CY Wh.1 Wh.2.1 Wh.2.2.1 Wh.2.2.2 (by rw[e];exact ZE) (a:=fa) (bt h.f) ahm,E7 hfa _,rfl,rfl,?_⟩;refine .one rfl rfl fun w'' hr'=>?_;have agM:w''.cell? pa=some p:=(iY (hr'.keep _ (.inl YJ))).trans hp';have agv:w''.cell? ta=some (.chan (some c1)):=(iY (hr'.keep _ (.inl SG))).trans Z3;have hsz:=h.size;have h1':(tmps.setIfInBounds 7 (.chan (some c0)))[1]?=some (ptr pa):=by rw[aB oN];exact h.p
  refine⟨_,_,Ax CY Wd.1 Wd.2.1 Wd.2.2.1 Wd.2.2.2 (by rw[e];exact ZF) (a:=pa) (bt h1') agM,E7 YJ _,rfl,rfl,?_⟩
  have h7:((tmps.setIfInBounds 7 (.chan (some c0))).setIfInBounds 8 p)[7]?=some (.chan (some c0)):=by
   rw[aB oN];exact bg oN
  have h8:((tmps.setIfInBounds 7 (.chan (some c0))).setIfInBounds 8 p)[8]?=some p:=bg sP;refine .BN (Hf CY S5.1 S5.2.1 S5.2.2.2 (c:=c0) (v:=p) (bt h7) (bt h8)) ?_;rw[BL S5.1 S5.2.2.1];refine .ctl rfl rfl (oB _) rfl rfl ?_;refine BH (tmps:=(tmps.setIfInBounds 7 (.chan (some c0))).setIfInBounds 8 p) e hf SG agv sP ?_;rw[aB oN,aB oN];exact h.t
theorem worker(e:P=aq)(hf:P.funcs[(178:Nat)]?=some Tryz.f178)(hcl:Closed fw X w)(hX:∀b,X b->P.globals.size<=b)(Cl:P.globals.size<=w.heap.size)(hin:P.inits.idxOf? 178=none)
  (xm:X xa.block) (YJ:X pa.block) (hfa:X fa.block) (SG:X ta.block) (hp:w.cell? pa=some p) (hfc:w.cell? fa=some (.chan (some c0))) (ht:w.cell? ta=some (.chan (some c1)))
  (h0:∀I d,w0.wp P (fun e a W'=>e=.normal/\WT a.tmps pa fa ta s) ⟨Kj xa pa fa ta,[]⟩ (dn (shut X w) I d)) :
  gU P c0 c1 X p s (fun _=>False) (wH P 178 #[ptr xa,ptr pa,ptr fa,ptr ta]) w:=by
 have hq:Quiet P:=quiet_of e;have Rq:uL P fw:=LQ e;refine .ctl rfl rfl (Nb hf X8 acQ _) rfl rfl ?_;rw[acO];refine .ctl rfl rfl (jN _ _) rfl rfl (.ctl rfl rfl (jN _ _) rfl rfl ?_);have hwr:WR fw P.globals.size (fun b=>b<w.heap.size) (x_ X) (shut X w) w:=Pc hcl hX;have SH:∀a:cJ,X a.block->VR fw (x_ X) (ptr a) (ptr a):=fun a ha=>.ptr ⟨vD ha,rfl,rfl⟩
 have SQ:iT fw (x_ X) (Kj xa pa fa ta) (Kj xa pa fa ta):=by
  refine iT.append ?_ (.replicate tO 6);exact(((iT.one (SH xa xm)).push (SH pa YJ)).push (SH fa hfa)).push (SH ta SG)
 have YA:=Dv (main:=false) (B:=fun b=>b<w.heap.size) hq Rq (by rw[v_];exact Cl) (fn:=178) (kd:=.deferred) sN hin (c:=w0) (by rw[e];exact ack) Zq SQ hwr Cl Pd (Q:=fun a _=>WT a.tmps pa fa ta s) (fun _ _ _ _ h=>h) h0 (S:=X) (BJ hcl) [.code (.cond (.tmp 6) w1 .skip),.code w2] [mW P];rw[Hh hcl] at YA;have kK:=YA.keep w fun c hc=>⟨hcl.lt hc,id,rfl⟩
 refine gU.Jb P c0 c1 kK ?_;rintro O g w' ⟨⟨nS,ld,kI,ρ1,rfl,Uz,hQ,hkn⟩,hk⟩
 have same:∀ {i:Nat} {a:cJ},X a.block->nS[i]?=some (ptr a)->ld[i]?=some (ptr a):=by
  intro i a ha hi;obtain⟨y,hy,hv⟩:=Uz.get hi;cases hv with
  |@ptr _ a' FZ=>
   have h1:=hkn.le _ _ (vD ha);have h2:=FZ.block;rw[h1] at h2;have h3:=a7 h2;have h4:=FZ.off;have h5:=FZ.spot;obtain⟨b1,o1,s1⟩:=a;obtain⟨b2,o2,s2⟩:=a';dsimp only at h3 h4 h5;subst h3;subst h4;subst h5;exact hy
 have hs6:ld[6]?=some (.bool s):=by
  obtain⟨y,hy,hv⟩:=Uz.get hQ.s;cases hv;exact hy
 have hc:∀ {a:cJ},X a.block->w'.cell? a=w.cell? a:=fun ha=>iY (hk _ ha).2.2;exact Km e hf YJ hfa SG ((hc YJ).trans hp) ((hc hfa).trans hfc) ((hc SG).trans ht) ⟨Uz.size▸hQ.size,same YJ hQ.p,same hfa hQ.f,same SG hQ.t,hs6⟩
end
open Go.RowKit
def acg(b:BB)(hb:b.Ok)(bm aH az v:aj)(l:List dS)(hl:∀a∈l,a.Ok)(p:Nat)(hp:p<512)(xb pb fb tb:Nat)(w:ak)(hv:Reads w v l.length (rowOf l))
  (hx:∀i u,(b.open bm aH az v)[i]?=some u->w.cell? ⟨xb,i,none⟩=some u) (hpc:w.cell? ⟨pb,0,none⟩=some (ag af p)) :
  w0.wp aq (fun e a W'=>e=.normal/\WT a.tmps ⟨pb,0,none⟩ ⟨fb,0,none⟩ ⟨tb,0,none⟩ (b.sure l p)) ⟨Kj ⟨xb,0,none⟩ ⟨pb,0,none⟩ ⟨fb,0,none⟩ ⟨tb,0,none⟩,[]⟩ w:=by
 have x0:=hx 0 _ rfl;have x1:=hx 1 _ rfl;have x2:=hx 2 _ rfl;have x3:=hx 3 _ rfl;have x4:=hx 4 _ rfl;have x5:=hx 5 _ rfl;have x6:=hx 6 _ rfl;have x7:=hx 7 _ rfl;have x8:=hx 8 _ rfl;have x9:=hx 9 _ rfl;have qo:=hx 10 _ rfl;have qm:=hx 11 _ rfl;have rj:=hx 12 _ rfl;have qX:=hx 13 _ rfl;have q7:=hx 14 _ rfl;have x15:=hx 15 _ rfl;clear hx;have hS:=xL b hb bm aH az v l hl p hp w hv;unfold w0 Kj;simp only[Tryz.f178]
 go_wp2_with (go_at_call 105;refine hS.mono ?_;rintro e w2 ⟨rfl,hb2⟩)
 exact⟨rfl,rfl,rfl,rfl,rfl⟩
def sL:gQ->gQ|.seq a _=>a|_=>.skip
def sR:gQ->gQ|.seq _ b=>b|_=>.skip
def bC:gQ->gQ|.block _ c=>c|_=>.skip
def lC:gQ->gQ|.loop c=>c|_=>.skip
def cT:gQ->gQ|.cond _ a _=>a|_=>.skip
def cE:gQ->gQ|.cond _ _ b=>b|_=>.skip
noncomputable def rb:Code:=match Tryz.f159.body with|some c=>c|_=>.skip
noncomputable def gR0:Code:=sL rb
noncomputable def gR1:Code:=sL (sR rb)
noncomputable def gR2:Code:=sL (sR (sR rb))
noncomputable def gR3:Code:=sL (sR (sR (sR rb)))
noncomputable def gM:Code:=sL (sR (sR (sR (sR rb))))
noncomputable def gN:Code:=sR (sR (sR (sR (sR rb))))
noncomputable def gR4:Code:=sL gM
noncomputable def JI:Code:=lC (bC (sR gM))
noncomputable def gR5:Code:=sL JI
noncomputable def Od:Code:=bC (sL (sR (sR JI)))
noncomputable def gR6:Code:=sL Od
noncomputable def gR7:Code:=sL (sR Od)
noncomputable def gR8:Code:=sL (sL (sR (sR Od)))
noncomputable def gR9:Code:=sL (sR (sR (sR Od)))
noncomputable def uS:Code:=sR (sR (sR (sR Od)))
noncomputable def LP:Code:=sR (sR (sR JI))
noncomputable def Gs:Code:=sL gN
noncomputable def M5:Code:=lC (bC (sL (sR gN)))
noncomputable def RI:Code:=sL (sL M5)
noncomputable def UM:Code:=bC (sR M5)
noncomputable def A3:Code:=sL UM
noncomputable def nM:Code:=sL (sR UM)
noncomputable def UL:Code:=bC (sR (sR UM))
noncomputable def A2:Code:=cT UL
noncomputable def RH:Code:=cT (cE UL)
noncomputable def wU:Code:=sR (sR gN)
def X9:Tryz.f159.body=some (.seq gR0 (.seq gR1 (.seq gR2 (.seq gR3 (.seq (.seq gR4 (.block 0 (.loop JI))) (.seq Gs (.seq (.block 2 (.loop M5)) wU))))))):=kQ
def aa1:JI=.seq gR5 (.seq (.cond (.tmp 19) .skip (.exit 0)) (.seq (.block 1 Od) LP)):=kQ
def aa4:Od=.seq gR6 (.seq gR7 (.seq (.seq gR8 (.cond (.tmp 50) (.exit 1) .skip)) (.seq gR9 uS))):=kQ
def aa0:M5=.seq (.seq RI (.cond (.tmp 56) .skip (.exit 2))) (.block 3 UM):=kQ
def aa3:UM=.seq A3 (.seq nM (.block 4 UL)):=kQ
def aa2:UL=.cond (.tmp 61) A2 (.cond (.tmp 62) RH .skip):=kQ
def XP:uS=.region 10 (opsOf uS) false:=kQ
def XO:nM=.region 16 (opsOf nM) false:=kQ
def af9:[gR5,gR6,gR7,gR8,gR9,LP,Gs,RI,A3,A2,RH].all (fun c=>iG aq fw c&&dX c)=true:=kQ
def aeK(a:Array aj):a=((aQ a.size).map fun i=>a.getD i ar).toArray:=by
 apply Array.ext
 .simp
 intro i h1 h2;simp[Array.getD,h1]
def uI(a:Array aj)(h:a.size=71):a=((aQ 71).map fun i=>a.getD i ar).toArray:=by
 have:=aeK a;rw[h] at this;exact this
structure GT(xb fb tb:Nat)(sn:Nat)(tmps:Array aj)(many m:Int)(t8:aj):Prop where
 size:tmps.size=71
 t1:tmps[1]?=some (ptr ⟨xb,0,none⟩)
 t3:tmps[3]?=some (ag af sn)
 t4:tmps[4]?=some (ptr ⟨fb,0,none⟩)
 t5:tmps[5]?=some (ptr ⟨tb,0,none⟩)
 t6:tmps[6]?=some (ag af many)
 t18:tmps[18]?=some (ag af m)
 t8:tmps[8]?=some t8
section
variable{xb fb tb sn:Nat}{tmps:Array aj}{many m:Int}{t8:aj}{lw:ak}
theorem pR5(h:GT xb fb tb sn tmps many m t8):gR5.wp aq (fun e a W'=>e=.normal/\GT xb fb tb sn a.tmps many m t8/\a.tmps[19]?=some (.bool (decide (m<512)))/\W'=lw) ⟨tmps,[]⟩ lw:=by
 have e1:=bt h.t1;have e3:=bt h.t3;have e4:=bt h.t4;have e5:=bt h.t5;have e6:=bt h.t6;have F3:=bt h.t18;have e8:=bt h.t8;rw[uI tmps h.size];simp only[aQ,cg,cP,fW,e1,e3,e4,e5,e6,F3,e8];clear e1 e3 e4 e5 e6 F3 e8;simp only[gR5,JI,Od,gM,gN,rb,kX,sL,sR,bC,lC];go_wp2;exact⟨rfl,rfl,rfl,rfl,rfl,rfl,rfl,rfl⟩
theorem pR6(h:GT xb fb tb sn tmps many m t8):gR6.wp aq (fun e a W'=>e=.normal/\GT xb fb tb sn a.tmps many m t8/\a.tmps[7]?=some (ag af m)/\W'=lw) ⟨tmps,[]⟩ lw:=by
 have e1:=bt h.t1;have e3:=bt h.t3;have e4:=bt h.t4;have e5:=bt h.t5;have e6:=bt h.t6;have F3:=bt h.t18;have e8:=bt h.t8;rw[uI tmps h.size];simp only[aQ,cg,cP,fW,e1,e3,e4,e5,e6,F3,e8];clear e1 e3 e4 e5 e6 F3 e8;simp only[gR6,JI,Od,gM,gN,rb,kX,sL,sR,bC,lC];go_wp2;exact⟨rfl,rfl,rfl,rfl,rfl,rfl,rfl,rfl⟩
def Q7(xb fb tb sn:Nat)(many:Int)(m:Nat)(lw:ak)(a:Act)(W':ak):Prop:=
 GT xb fb tb sn a.tmps many m (ptr ⟨lw.heap.size,0,none⟩)/\a.tmps[7]?=some (ag af m)/\W'.heap[lw.heap.size]?=some (.cells #[ag af ((sn ||| m:Nat):Int)] 108 (0,0))/\Bw lw W'
theorem pR7{m:Nat}(hs:sn<512)(hm:m<512)(h:GT xb fb tb sn tmps many m t8)(h7:tmps[7]?=some (ag af m)):gR7.wp aq (fun e a W'=>e=.normal/\Q7 xb fb tb sn many m lw a W') ⟨tmps,[]⟩ lw:=by
 have h64:=acJ sn m oM oM;have e1:=bt h.t1;have e3:=bt h.t3;have e4:=bt h.t4;have e5:=bt h.t5;have e6:=bt h.t6;have F3:=bt h.t18;have e8:=bt h.t8;have e7:=bt h7;rw[uI tmps h.size];simp only[aQ,cg,cP,fW,e1,e3,e4,e5,e6,F3,e8,e7];clear e1 e3 e4 e5 e6 F3 e8 e7;simp only[gR7,JI,Od,gM,gN,rb,kX,sL,sR,bC,lC];go_wp2;exact⟨⟨rfl,rfl,rfl,rfl,rfl,rfl,rfl,rfl⟩,rfl,World.alloc_heap_new _ _,cY⟩
theorem pR9(hm:0<=many/\many<=1000)(h:GT xb fb tb sn tmps many m t8):gR9.wp aq (fun e a W'=>e=.normal/\GT xb fb tb sn a.tmps (many+1) m t8/\W'=lw) ⟨tmps,[]⟩ lw:=by
 have e1:=bt h.t1;have e3:=bt h.t3;have e4:=bt h.t4;have e5:=bt h.t5;have e6:=bt h.t6;have F3:=bt h.t18;have e8:=bt h.t8;rw[uI tmps h.size];simp only[aQ,cg,cP,fW,e1,e3,e4,e5,e6,F3,e8];clear e1 e3 e4 e5 e6 F3 e8;simp only[gR9,JI,Od,gM,gN,rb,kX,sL,sR,bC,lC];go_wp2;exact⟨rfl,rfl,rfl,rfl,rfl,rfl,rfl,rfl⟩
theorem af5(hm:0<=m/\m<=1000)(h:GT xb fb tb sn tmps many m t8):LP.wp aq (fun e a W'=>e=.normal/\GT xb fb tb sn a.tmps many (m+1) t8/\W'=lw) ⟨tmps,[]⟩ lw:=by
 have e1:=bt h.t1;have e3:=bt h.t3;have e4:=bt h.t4;have e5:=bt h.t5;have e6:=bt h.t6;have F3:=bt h.t18;have e8:=bt h.t8;rw[uI tmps h.size];simp only[aQ,cg,cP,fW,e1,e3,e4,e5,e6,F3,e8];clear e1 e3 e4 e5 e6 F3 e8;simp only[LP,JI,Od,gM,gN,rb,kX,sL,sR,bC,lC];go_wp2;exact⟨rfl,rfl,rfl,rfl,rfl,rfl,rfl,rfl⟩
structure GH(fb tb:Nat)(tmps:Array aj)(many:Int)(v:aj):Prop where
 size:tmps.size=71
 t4:tmps[4]?=some (ptr ⟨fb,0,none⟩)
 t5:tmps[5]?=some (ptr ⟨tb,0,none⟩)
 t6:tmps[6]?=some (ag af many)
 t9:tmps[9]?=some v
theorem af4(h:GT xb fb tb sn tmps many m t8):Gs.wp aq (fun e a W'=>e=.normal/\GH fb tb a.tmps many (.slice none 0 0)/\W'=lw) ⟨tmps,[]⟩ lw:=by
 have e1:=bt h.t1;have e3:=bt h.t3;have e4:=bt h.t4;have e5:=bt h.t5;have e6:=bt h.t6;have F3:=bt h.t18;have e8:=bt h.t8;rw[uI tmps h.size];simp only[aQ,cg,cP,fW,e1,e3,e4,e5,e6,F3,e8];clear e1 e3 e4 e5 e6 F3 e8;simp only[Gs,JI,Od,gM,gN,rb,kX,sL,sR,bC,lC];go_wp2;exact⟨rfl,rfl,rfl,rfl,rfl⟩
theorem af3{v:aj}(h:GH fb tb tmps many v):RI.wp aq (fun e a W'=>e=.normal/\GH fb tb a.tmps many v/\a.tmps[56]?=some (.bool (decide (0<many)))/\W'=lw) ⟨tmps,[]⟩ lw:=by
 have e4:=bt h.t4;have e5:=bt h.t5;have e6:=bt h.t6;have e9:=bt h.t9;rw[uI tmps h.size];simp only[aQ,cg,cP,fW,e4,e5,e6,e9];clear e4 e5 e6 e9;simp only[RI,M5,UM,UL,gN,rb,kX,sL,sR,bC,lC,cT,cE];go_wp2;exact⟨rfl,rfl,rfl,rfl,rfl⟩
theorem Zz{v x y:aj}(h:GH fb tb tmps many v)(hf:lw.cell? ⟨fb,0,none⟩=some x)(ht:lw.cell? ⟨tb,0,none⟩=some y):A3.wp aq (fun e a W'=>e=.normal/\GH fb tb a.tmps many v/\a.tmps[57]?=some x/\a.tmps[58]?=some y/\W'=lw) ⟨tmps,[]⟩ lw:=by
 have e4:=bt h.t4;have e5:=bt h.t5;have e6:=bt h.t6;have e9:=bt h.t9;rw[uI tmps h.size];simp only[aQ,cg,cP,fW,e4,e5,e6,e9];clear e4 e5 e6 e9;simp only[A3,M5,UM,UL,gN,rb,kX,sL,sR,bC,lC,cT,cE];go_wp2;exact⟨rfl,rfl,rfl,rfl,rfl⟩
theorem af2{v:aj}(hm:0<=many/\many<=1000)(h:GH fb tb tmps many v):RH.wp aq (fun e a W'=>e=.normal/\GH fb tb a.tmps (many-1) v/\W'=lw) ⟨tmps,[]⟩ lw:=by
 have e4:=bt h.t4;have e5:=bt h.t5;have e6:=bt h.t6;have e9:=bt h.t9;rw[uI tmps h.size];simp only[aQ,cg,cP,fW,e4,e5,e6,e9];clear e4 e5 e6 e9;simp only[RH,M5,UM,UL,gN,rb,kX,sL,sR,bC,lC,cT,cE];go_wp2;exact⟨rfl,rfl,rfl,rfl,rfl⟩
end
noncomputable def af8:Array Oper:=opsOf gR8
def aaY:gR8=.region 8 af8 true:=kQ
def yS(b:BB)(kZ:Nat)(sn m:Nat):Bool:=decide (m &&& (2 ^ kZ-1)≠0)||decide (2 ^ (b.minutes.toNat+1)<=m)||decide (b.eN<((upTo (sn ||| m) 8).length:Int))
def _root_.Go.Lag.ik.some{n:Nat}{a:Act}{l:List (Tmp × aj)}(h:ik n a l)(k:Nat){t:Tmp}{v:aj}(hk:l[k]?=Option.some (t,v))(ht:t<n):a.tmps[t]?=Option.some v:=by
 have h1:a.tmps.getD t ar=v:=h.g k hk;have h2:t<a.tmps.size:=by rw[h.size];exact ht
 simp[Array.getD,h2] at h1;rw[Array.getElem?_eq_getElem h2,h1]
def Pe(y:Nat)(hy:y<=63)(t:aZ)(w:ak):(Go.binOp .shl t (ag af 1) (ag af (y:Int))).run aq w=.ok (ag af (IntKind.i64.wrap (2 ^ y))) w:=by
 have h:¬(y:Int)<0:=oM;have e:min (y:Int).toNat IntKind.i64.bits=y:=by show min (y:Int).toNat 64=y;omega
 show(Op.shift .shl af 1 af (y:Int)).run aq w=_;unfold Op.shift;rw[if_neg h,e];show Result.ok (aD af (IntKind.i64.wrap (1*2 ^ y))) w=_;rw[Int.one_mul]
section
variable{xb fb tb sn:Nat}{tmps:Array aj}{many:Int}{m:Nat}{lw:ak}
def Q8(xb fb tb sn pb:Nat)(many:Int)(m:Nat)(r:Bool)(lw:ak)(a:Act)(W':ak):Prop:=
 GT xb fb tb sn a.tmps many m (ptr ⟨pb,0,none⟩)/\a.tmps[50]?=some (.bool r)/\Bw lw W'
theorem pR8{b:BB}{bm aH az:aj}{pb:Nat}(hb:b.Ok)(Rh:sn<512)(hm:m<512)(h:GT xb fb tb sn tmps many m (ptr ⟨pb,0,none⟩))(h7:tmps[7]?=some (ag af m))
  (hx:∀i u,(b.cells bm aH az)[i]?=some u->lw.cell? ⟨xb,i,none⟩=some u) (hp:lw.cell? ⟨pb,0,none⟩=some (ag af ((sn ||| m:Nat):Int))) (hlt:xb<lw.heap.size/\pb<lw.heap.size)
  {kZ:Nat} (XI:1<=kZ/\kZ<=9) (hB:∀w1,Bw lw w1->Calls aq 155 #[.agg (b.cells bm aH az)] w1 (Rt w1 (ag af kZ))) :
  gR8.wp aq (fun e a W'=>e=.normal/\Q8 xb fb tb sn pb many m (yS b kZ sn m) lw a W') ⟨tmps,[]⟩ lw:=by
 have hp9:sn ||| m<512:=Nat.or_lt_two_pow (n:=9) Rh hm
 have AX:=hb.minutes;have ahs:=hb.eN;generalize hpp:sn ||| m=p at *
 obtain⟨Y,hY⟩:∃Y:Int,(2:Int) ^ kZ=Y:=⟨_,rfl⟩
 have hYn:Y=((2 ^ kZ:Nat):Int):=by rw[<-hY];simp
 have hYb:(2:Nat) ^ kZ<=512/\1<=(2:Nat) ^ kZ:=⟨Nat.pow_le_pow_right (j:=9) oM oM,Nat.one_le_two_pow⟩
 generalize hK2:(2:Nat) ^ kZ=K2 at hYn hYb;have w1e:IntKind.i64.wrap (2 ^ kZ)=Y:=by rw[hY,hYn];exact fC _ (Int.natCast_nonneg _) oM
 have w2:IntKind.i64.wrap (Y-1)=Y-1:=by rw[hYn];exact fC _ oM oM
 have a1:bits .and af (m:Int) (Y-1)=((m &&& (K2-1):Nat):Int):=by
  have e:Y-1=((K2-1:Nat):Int):=by rw[hYn];omega
  rw[e];exact Y_ m (K2-1) oM oM
 obtain⟨mn,hmn⟩:∃mn:Nat,b.minutes=mn:=⟨b.minutes.toNat,oM⟩
 have hZb:(2:Nat) ^ (mn+1)<=512/\1<=(2:Nat) ^ (mn+1):=⟨Nat.pow_le_pow_right (j:=9) oM oM,Nat.one_le_two_pow⟩
 have w3:IntKind.i64.wrap (b.minutes+1)=((mn+1:Nat):Int):=by rw[hmn];exact fC _ oM oM
 obtain⟨Z,hZ⟩:∃Z:Int,(2:Int) ^ (mn+1)=Z:=⟨_,rfl⟩
 have hZn:Z=((2 ^ (mn+1):Nat):Int):=by rw[<-hZ];simp
 have N9:yS b kZ sn m=(decide (m &&& (K2-1)≠0)||decide (2 ^ (mn+1)<=m)||decide (b.eN<((upTo p 8).length:Int))):=by unfold yS;rw[hpp,hK2,hmn];rfl
 generalize (2:Nat) ^ (mn+1)=Z2 at *;have w4:IntKind.i64.wrap (2 ^ (mn+1))=Z:=by rw[hZ,hZn];exact fC _ (Int.natCast_nonneg _) oM
 have hF:ik 71 ⟨tmps,[]⟩ [(1,ptr ⟨xb,0,none⟩),(3,ag af sn),(4,ptr ⟨fb,0,none⟩),(5,ptr ⟨tb,0,none⟩),(6,ag af many),(18,ag af m),(8,ptr ⟨pb,0,none⟩),(7,ag af m)]:=
  ⟨h.size,rfl,bt h.t1,bt h.t3,bt h.t4,bt h.t5,bt h.t6,bt h.t18,bt h.t8,bt h7,trivial⟩
 have cx:∀w1,Bw lw w1->∀i u,(b.cells bm aH az)[i]?=some u->w1.cell? ⟨xb,i,none⟩=some u:=fun w1 hS i u hi=>(hS.cell (p:=⟨xb,i,none⟩) hlt.1).trans (hx i u hi);rw[aaY]
 refine abq kQ ⟨[],[(2,.agg (b.cells bm aH az)),(3,ag af kZ),(4,ag af Y),(5,ag af (Y-1)),(6,ag af ((m &&& (K2-1):Nat):Int)),(13,ag af b.minutes),(14,ag af ((mn+1:Nat):Int)),(15,ag af Z),(19,ag af (p:Int)),(20,ag af ((upTo p 8).length:Int)),(24,ag af b.eN)],[],[]⟩
  [(50,.bool (((!(((m &&& (K2-1):Nat):Int)==0))||decide ((m:Int)≥Z))||decide (((upTo p 8).length:Int)>b.eN)))] hF trivial
  ⟨fun w1 hS _=>gs (mG 119 (ptr ⟨xb,0,none⟩)) (by
    have c:=cx w1 hS;have z0:=c 0 _ rfl;have z1:=c 1 _ rfl;have z2:=c 2 _ rfl;have z3:=c 3 _ rfl;have z4:=c 4 _ rfl;have z5:=c 5 _ rfl;have z6:=c 6 _ rfl;have z7:=c 7 _ rfl;have z8:=c 8 _ rfl;have z9:=c 9 _ rfl;have z10:=c 10 _ rfl;have z11:=c 11 _ rfl;have z12:=c 12 _ rfl;have z13:=c 13 _ rfl;have z14:=c 14 _ rfl
    go_simp),
   fun w1 hS _=>gc (hB w1 hS),fun w1 _ _=>gs _ ((Pe kZ oM 108 w1).trans (by rw[w1e])),fun _ _ _=>ge (congrArg (aD af) w2),fun w1 _ _=>gs (Go.binOp .and 108 (ag af m) (ag af (Y-1))) (by rw[hYn] at a1 ⊢;go_simp),
   fun w1 hS _=>gl (cx w1 hS 3 _ rfl),fun _ _ _=>ge (congrArg (aD af) w3),fun w1 _ _=>gs _ ((Pe (mn+1) oM 3 w1).trans (by rw[w4])),fun w1 hS _=>gl ((hS.cell (p:=⟨pb,0,none⟩) hlt.2).trans hp),fun w1 hS _=>gc (tq p hp9 w1),fun w1 hS _=>gl (cx w1 hS 6 _ rfl),trivial⟩ ?_
 intro a w ho hF;refine⟨rfl,⟨hF.size,hF.some 1 rfl dC,hF.some 2 rfl dC,hF.some 3 rfl dC,hF.some 4 rfl dC,hF.some 5 rfl dC,hF.some 6 rfl dC,hF.some 7 rfl dC⟩,?_,ho⟩;rw[hF.some 0 rfl dC,N9];rw[hZn]
 have e1:(!(((m &&& (K2-1):Nat):Int)==0))=decide (m &&& (K2-1)≠0):=by
  rw[Bool.eq_iff_iff];simp
 have e2:decide ((m:Int)≥((Z2:Nat):Int))=decide (Z2<=m):=sM;rw[e1,e2]
theorem Xg:(Tryz.prog.info? 108).map (fun i=>(i.zero,i.size,i.bytes))=some (some (ag af 0),1,8):=kQ
def Q18(fb tb:Nat)(many:Int)(out:List Nat)(B:Nat)(lw:ak)(a:Act)(W':ak):Prop:=
 ∃v,GH fb tb a.tmps many v/\W'.ownsRow B 108 1 v out.length (out.map fun(p:Nat)=>aD af (p:Int))/\Below B lw W'
theorem Zy{v:aj}{x y z:aj}{out:List Nat}{p B:Nat}(ho:out.length<=1000)(h:GH fb tb tmps many v)(h59:tmps[59]?=some (bB #[x,y,ag af p,z]))(hown:lw.ownsRow B 108 1 v out.length (out.map fun(p:Nat)=>aD af (p:Int)))(hB:B<=lw.heap.size) :
  A2.wp aq (fun e a W'=>e=.normal/\Q18 fb tb many (out++[p]) B lw a W') ⟨tmps,[]⟩ lw:=by
 obtain⟨i0,hi,hz0,hz1,hz2⟩:=info_parts Xg;have e4:=bt h.t4;have e5:=bt h.t5;have e6:=bt h.t6;have e9:=bt h.t9;have e59:=bt h59;rw[uI tmps h.size];simp only[aQ,cg,cP,fW,e4,e5,e6,e9,e59];clear e4 e5 e6 e9 e59;simp only[A2,M5,UM,UL,gN,rb,kX,sL,sR,bC,lC,cT,cE]
 go_wp2_with (at_builtin;refine wpList_append_own _ rfl _ _ 172 rfl B 108 i0 (ag af 0) 1 8 Tryz.underlying172 hi hz0 hz1 hz2 rfl dC _ _ _ rfl (hown.alloc _) ⟨lw.heap.size,0,none⟩ 1 1 [ag af p] rfl rfl (Yy (Mj _ _ _)) (TN rfl) (by unfold maxLen;omega) oM sO ?_)
 intro v' w1 hown' hgrow _;have hb1:Below B lw w1:=((Below.refl _ _).alloc hB _).grown hgrow sO (fun j hj=>(hown.lt j hj).1);clear hgrow;go_wp2;exact⟨v',⟨rfl,rfl,rfl,rfl,rfl⟩,by simpa using hown',hb1⟩
end
end Go.Proofs.YtffladgmkiimjaaGreatDoor
namespace Go.Lag
open Go.Conc
section
variable{P:aL}{c0 c1:Nat}{z0 z1:aj}{Fin:List aj->List aj->(Nat->Prop)->(Nat->Prop)->aC->ak->Prop}{f m:Nat}{acc out:List aj}{S O:Nat->Prop}{g:aC}{w:ak}
theorem gG.wide{w0:ak}(h:gG P c0 c1 z0 z1 Fin f m acc out S O g w):∀(E:Nat->Prop),(∀c,E c->c<w.heap.size/\¬O c/\w.heap[c]?=w0.heap[c]?)->
  gG P c0 c1 z0 z1 (fun acc out _ O g w'=>∃S,Fin acc out S O g w'/\∀c,E c->¬O c/\w'.heap[c]?=w0.heap[c]?) f m acc out (fun c=>S c\/E c) O g w:=by
 have nar:∀ {S O E:Nat->Prop} {w w1:ak},iO (fun c=>(S c\/E c)\/O c) w w1->iO (fun c=>S c\/O c) w w1:=fun hr=>⟨hr.grow,fun c hc=>hr.keep c (hc.imp .inl id)⟩
 induction h with
 |fin hs h=>
  intro E hE;exact .fin hs fun w1 hr=>⟨_,h w1 (nar hr),fun c hc=>⟨(hE c hc).2.1,(hr.keep c (.inl (.inr hc))).trans (hE c hc).2.2⟩⟩
 |@step f m acc out S O g w a b c d ih=>
  intro E hE;refine .step a b (fun w1 hr=>?_) fun w1 hr g2 w2 es he=>?_
  .obtain⟨g2,w2,es,e,hg,h1,h2⟩:=c w1 (nar hr);exact⟨g2,w2,es,e,⟨hg.grow,hg.keep,hg.tape,hg.drawn,hg.os,hg.out,fun x hx=>(hg.evs x hx).mono (fun c hc=>hc.imp .inl id) fun c hc=>hc⟩,h1,h2⟩
  refine ih w1 (nar hr) g2 w2 es he E fun x hx=>?_;obtain⟨h1,h2,h3⟩:=hE x hx;obtain⟨g3,w3,es3,e3,hg,_,_⟩:=c w1 (nar hr);rw[he] at e3;injection e3 with e4 e5 e6
  subst e5;have hlt:x<w1.heap.size:=bD h1 hr.grow;exact⟨bD hlt hg.grow,fun ho=>ho.elim h2 fun hn=>by omega,by rw[hg.keep x hlt h2,hr.keep x (.inl (.inr hx))];exact h3⟩
 |spawn h1 h2 h2' h3 h4 h5 h6 _ ih=>
  intro E hE
  exact .spawn h1 h2 h2' (fun c hc=>(h3 c hc).imp .inl id) h4 (fun c hc=>hc.elim (fun hc=>(h5 c hc).imp .inl id) fun hc=>.inl (.inr hc)) (fun c hc=>⟨(h6 c hc).1,(h6 c hc).2.1,fun h=>h.elim (h6 c hc).2.2 fun he=>(hE c he).2.1 (h6 c hc).1⟩)
   (ih E fun c hc=>⟨(hE c hc).1,fun ho=>(hE c hc).2.1 (h6 c ho).1,(hE c hc).2.2⟩)
 |select h1 _ _ Yz ih2=>
  intro E hE;exact .select h1 (fun v f' e hv=>Yz v f' e hv E hE) fun hf=>ih2 hf E hE
structure MS(P:aL)(F:Nat->Bool)(B S O:Nat->Prop)(tmps bu:Array aj)(lw w:ak)(U:Rn):Prop where
 av:iT F U tmps bu
 wr:WR F P.globals.size B U lw w
 vH:P.globals.size<=w.heap.size
 Le:P.globals.size<=lw.heap.size
 own:O=U.owns B
 shared:∀c,S c↔∃b,B b/\U b=some c
 ok:dv lw
variable{F:Nat->Bool}{B:Nat->Prop}{tmps bu:Array aj}{lw:ak}{U:Rn}
theorem MS.rely(h:MS P F B S O tmps bu lw w U){w2:ak}(hr:iO (fun c=>S c\/O c) w w2):MS P F B S O tmps bu lw w2 U:=
 ⟨h.av,h.wr.rely (by
  have e:(fun c=>S c\/O c)=fun c=>(∃b,B b/\U b=some c)\/U.owns B c:=by funext c;rw[h.shared c,h.own]
  rwa [e] at hr),aG h.vH hr.grow,h.Le,h.own,h.shared,h.ok⟩
theorem MS.set(h:MS P F B S O tmps bu lw w U){v v':aj}(hv:VR F U v v')(i:Nat):MS P F B S O (tmps.setIfInBounds i v) (bu.setIfInBounds i v') lw w U:=
 ⟨h.av.set hv i,h.wr,h.vH,h.Le,h.own,h.shared,h.ok⟩
theorem MS.get(h:MS P F B S O tmps bu lw w U){i:Nat}{v:aj}(hv:tmps[i]?=some v):∃v',bu[i]?=some v'/\VR F U v v':=h.av.get hv
def oQ(lw:ak)(b:Nat)(cs:Array aj)(e:aZ)(n:Nat):World:={ lw with heap:=lw.heap.setIfInBounds b (.cells cs e (0,max cs.size n)) }
theorem xw{b:Nat}{cs:Array aj}{e:aZ}{n:Nat}:(oQ lw b cs e n).heap.size=lw.heap.size:=by simp[oQ]
theorem pQ{b:Nat}{cs:Array aj}{e:aZ}{z:Nat × Nat}(h:lw.heap[b]?=some (.cells cs e z)){x:Nat}:(oQ lw b cs e z.2).heap[x]?=if x=b then some (.cells cs e (0,max cs.size z.2)) else lw.heap[x]?:=by
 unfold oQ
 by_cases hx:x=b
 .subst hx;rw[if_pos rfl];exact bg (eJ h)
 rw[if_neg hx];exact aB (xH hx)
theorem WR.freeze{G:Nat}(h:WR F G B U lw w){b c:Nat}(hb:U b=some c){cs:Array aj}{e:aZ}{z:Nat × Nat}(ho:lw.heap[b]?=some (.cells cs e z)):WR F G (fun x=>B x\/x=b) U (oQ lw b cs e z.2) w:=by
 refine⟨h.inj,h.low,fun x hx=>?_,fun x y hx=>?_,fun x o hx=>?_⟩
 .rw[xw];exact hx.elim (h.base x) fun e=>e▸eJ ho
 .rw[pQ ho];obtain⟨o,o',h1,h2,h3,h4⟩:=h.at_ x y hx
  by_cases hxb:x=b
  .subst hxb;rw[if_pos rfl];rw[ho] at h1;cases h1;refine⟨_,o',rfl,h2,?_,fun _=>⟨_,_,_,rfl,oN⟩⟩;cases h3 with
   |cells ha hz=>exact .cells ha fun i h5 h6=>⟨iq _,by have:=(hz i h5 h6).2;simp only;omega⟩
  rw[if_neg hxb];exact⟨o,o',h1,h2,h3,fun hB=>h4 (hB.elim id fun e=>absurd e hxb)⟩
 rw[pQ ho] at hx;split at hx
 .cases hx;rfl
 exact h.Jc _ _ hx
theorem LR{b:Nat}{cs:Array aj}{e:aZ}{z:Nat × Nat}(ho:lw.heap[b]?=some (.cells cs e z))(h:dv lw):dv (oQ lw b cs e z.2):=by
 intro x o hx;rw[pQ ho] at hx;split at hx
 .cases hx;exact .inl rfl
 exact h x o hx
theorem MS.freeze(h:MS P F B S O tmps bu lw w U){b c:Nat}(hb:U b=some c)(hB:¬B b){cs:Array aj}{e:aZ}{z:Nat × Nat}(ho:lw.heap[b]?=some (.cells cs e z)) :
  MS P F (fun x=>B x\/x=b) (fun x=>S x\/x=c) (fun x=>O x/\x≠c) tmps bu (oQ lw b cs e z.2) w U:=by
 refine⟨h.av,h.wr.freeze hb ho,h.vH,by rw[xw];exact h.Le,?_,fun x=>?_,LR ho h.ok⟩
 .funext x
  rw[h.own];refine propext ⟨fun⟨⟨y,h1,h2⟩,h3⟩=>⟨y,fun h4=>h4.elim h1 fun e=>h3 ?_,h2⟩,fun⟨y,h1,h2⟩=>⟨⟨y,fun hy=>h1 (.inl hy),h2⟩,fun e=>h1 (.inr ?_)⟩⟩
  .subst e;rw[hb] at h2;exact(a7 h2).symm
  subst e;exact h.wr.inj _ _ _ h2 hb
 constructor
 .rintro(hx|rfl)
  .obtain⟨y,h1,h2⟩:=(h.shared x).1 hx;exact⟨y,.inl h1,h2⟩
  exact⟨b,.inr rfl,hb⟩
 rintro⟨y,h1|rfl,h2⟩
 .exact .inl ((h.shared x).2 ⟨y,h1,h2⟩)
 rw[hb] at h2;exact .inr (a7 h2).symm
variable{fn:dU}{kd:ki}{k:List Item}{cs:List bT}{aM:Array cI}
theorem Wo{i:Nat}{rest:List Nat}{o:cI}{x:bI}{tys:Array aZ}(CY:kd≠.early)(ho:aM[i]?=some o)(hop:o.op=.go { callee:=.value x,args:=#[],argTypes:=tys })(hd:o.dst=none)(hg:o.guard=none)
  {fi:dU} {captured:Array aj} (hx:(jm fn tmps (.inRegion aM (i::rest)::k) .run kd).eval x=.func (.func fi) #[] captured):AtGo P (GK fn tmps (.inRegion aM (i::rest)::k) kd cs) (GK fn tmps (.inRegion aM rest::k) kd cs) (wH P fi captured):=by
 refine⟨rfl,rfl,fun w=>?_⟩;have hw:((aM[i]?).map (cL · (yielded aM tmps))).getD false=true:=by rw[ho];simp[cL,hg]
 have Xy:(kd == .early)=false:=beq_eq_false_iff_ne.2 CY;have e1:fe P true (GK fn tmps (.inRegion aM (i::rest)::k) kd cs) w=eW P true (jm fn tmps (.inRegion aM (i::rest)::k) .run kd) cs none w:=if_pos hw;rw[e1]
 have e2:cu (jm fn tmps (.inRegion aM (i::rest)::k) .run kd).eval o=eQ (Next.spawn { target:=.fn (.func fi) captured,args:=#[] }):=by
  unfold cu;rw[hop];simp only[resolve,hx,Deferred.ofValue,List.map_toArray,fW,dZ,pure_bind]
 have e3:eW P true (jm fn tmps (.inRegion aM (i::rest)::k) .run kd) cs none w=ek P true (jm fn tmps (.inRegion aM (i::rest)::k) .run kd) cs none (cu (jm fn tmps (.inRegion aM (i::rest)::k) .run kd).eval o) w:=by
  unfold eW;have:(jm fn tmps (.inRegion aM (i::rest)::k) .run kd).oper?=some o:=ho;rw[this];rfl
 rw[e3,e2];unfold ek;have e4:(eQ (Next.spawn { target:=.fn (.func fi) captured,args:=#[] }):Sem Next).runT P w #[]=(.ok (.spawn { target:=.fn (.func fi) captured,args:=#[] }) w,#[]):=rfl;simp only[if_true,e4];simp only[jm,Xy,bE,if_false,GStep.after,dZ,Frame.finish,ho,gI,hd,Bool.and_false,Bool.false_and];rfl
theorem Ta{i:Nat}{rest:List Nat}{o:cI}{x y:bI}{t0 t1:aZ}(CY:kd≠.early)(ho:aM[i]?=some o)(hop:o.op=.select #[{ chan:=x,send:=none,elem:=t0 },{ chan:=y,send:=none,elem:=t1 }] true)(hg:o.guard=none)
  (hz0:∀w es,(iW t0).runT P w es=(.ok z0 w,es)) (hz1:∀w es,(iW t1).runT P w es=(.ok z1 w,es))
  (hx:(jm fn tmps (.inRegion aM (i::rest)::k) .run kd).eval x=.chan (some c0)) (hy:(jm fn tmps (.inRegion aM (i::rest)::k) .run kd).eval y=.chan (some c1)):Zo P c0 c1 z0 z1 (GK fn tmps (.inRegion aM (i::rest)::k) kd cs):=by
 refine⟨rfl,rfl,rfl,fun w=>?_⟩;have hw:((aM[i]?).map (cL · (yielded aM tmps))).getD false=true:=by rw[ho];simp[cL,hg]
 have Xy:(kd == .early)=false:=beq_eq_false_iff_ne.2 CY;have e1:fe P true (GK fn tmps (.inRegion aM (i::rest)::k) kd cs) w=eW P true (jm fn tmps (.inRegion aM (i::rest)::k) .run kd) cs none w:=if_pos hw;rw[e1]
 have e2:(cu (jm fn tmps (.inRegion aM (i::rest)::k) .run kd).eval o).runT P w #[]=(.ok (Next.comm (jY c0 c1 z0 z1) true .select) w,#[]):=by
  have h1:cu (jm fn tmps (.inRegion aM (i::rest)::k) .run kd).eval o=((iW t0).bind fun a=>(iW t1).bind fun b=>eQ (Next.comm #[{ chan:=.chan (some c0),send:=none,zero:=a },{ chan:=.chan (some c1),send:=none,zero:=b }] true .select)):=by
   unfold cu;rw[hop];simp only[o9,<-List.mapM'_eq_mapM,List.mapM',hx,hy,Option.map_none,bind_assoc,pure_bind,map_eq_pure_bind];rfl
  rw[h1,GV,hz0];simp only;rw[GV,hz1];rfl
 have e3:eW P true (jm fn tmps (.inRegion aM (i::rest)::k) .run kd) cs none w=ek P true (jm fn tmps (.inRegion aM (i::rest)::k) .run kd) cs none (cu (jm fn tmps (.inRegion aM (i::rest)::k) .run kd).eval o) w:=by
  unfold eW;have:(jm fn tmps (.inRegion aM (i::rest)::k) .run kd).oper?=some o:=ho;rw[this];rfl
 rw[e3];unfold ek;simp only[if_true,e2];simp only[jm,Xy,bE,if_false];rfl
theorem FH{i:Nat}{rest:List Nat}{o:cI}{d:Tmp}(ho:aM[i]?=some o)(hd:o.dst=some d)(kk:Nat)(v:aj) :
  iJ P c0 c1 z0 z1 (GK fn tmps (.inRegion aM (i::rest)::k) kd cs) kk v=GK fn (tmps.setIfInBounds d (.tuple #[goInt kk,.bool true,if kk=0 then v else z0,if kk=1 then v else z1])) (.inRegion aM rest::k) kd cs:=by
 have hc:commResult (jY c0 c1 z0 z1) .select kk v true=.tuple #[goInt kk,.bool true,if kk=0 then v else z0,if kk=1 then v else z1]:=by
  simp only[commResult,jY,rcase]
  congr 1
  have e0:(((0:Nat):Int)=(kk:Int))=(kk=0):=by apply propext;omega
  have e1:(((1:Nat):Int)=(kk:Int))=(kk=1):=by apply propext;omega
  simp;simp only[Int.natCast_zero,Int.natCast_one] at e0 e1;constructor
  .by_cases h:kk=0<;>simp[h,e0]<;>omega
  by_cases h:kk=1<;>simp[h,e1]<;>omega
 simp only[iJ,Goroutine.finishComm,GK,G,jm,Frame.finish,ho,hd,gI,hc]
end
section
variable{P:aL}{c0 c1:Nat}{z0 z1:aj}{Fin:List aj->List aj->(Nat->Prop)->(Nat->Prop)->aC->ak->Prop}{f m:Nat}{acc out:List aj}{S O:Nat->Prop}{g:aC}{w:ak}
 {F:Nat->Bool} {B:Nat->Prop} {tmps bu:Array aj} {lw:ak} {U:Rn}
theorem MS.wb(h:MS P F B S O tmps bu lw w U){c:Nat}(hc:S c):c<w.heap.size/\¬O c:=by
 obtain⟨b,hB,hρ⟩:=(h.shared c).1 hc;obtain⟨o,o',_,h2,_⟩:=h.wr.at_ b c hρ;refine⟨eJ h2,fun ho=>?_⟩;rw[h.own] at ho;obtain⟨b',h1,h3⟩:=ho;exact h1 (h.wr.inj _ _ _ hρ h3▸hB)
theorem gG.Zx(T:Quiet P)(hF:uL P F){fn:dU}{kd:ki}(hE:kd≠.early)(hi:P.inits.idxOf? fn=none){c:gQ}(hc:iG P F c=true)(hc':dX c=true)
  (hm:MS P F B S O tmps bu lw w U) {Q:Act->ak->Prop} (hQ:∀a W' I d,Q a (dn W' I d)->Q a W') (h:∀I d,c.wp P (fun e a W'=>e=.normal/\Q a W') ⟨tmps,[]⟩ (dn lw I d)) {k:List Item} {cs:List bT}
  (cont:∀nS ld kI ρ1 O1 w1,MS P F B S O1 nS ld kI w1 ρ1->Q ⟨nS,[]⟩ kI->Rn.le U ρ1->(∀c,O c->O1 c)->(∀c,S c->w1.heap[c]?=w.heap[c]?)->gG P c0 c1 z0 z1 Fin f m acc out S O1 (G (jm fn ld k .run kd) cs) w1) :
  gG P c0 c1 z0 z1 Fin f m acc out S O (G (jm fn bu (.code c::k) .run kd) cs) w:=by
 have hw:=Dv (main:=true) T hF hm.Le hE hi hc hc' hm.av hm.wr hm.vH hm.ok hQ h hm.shared k cs;rw[<-hm.own] at hw;have hw':=hw.keep w fun c hc=>⟨(hm.wb hc).1,(hm.wb hc).2,rfl⟩
 refine gG.Jb hw' ?_;rintro O1 g1 w1 ⟨⟨nS,ld,kI,ρ1,rfl,Uz,hq,hkn⟩,hk⟩;refine cont nS ld kI ρ1 O1 w1 ⟨Uz,hkn.wr,hkn.vH,aG hm.Le hkn.grow,hkn.own,hkn.shared,hkn.ok⟩ hq hkn.le (fun c ho=>?_) fun c hc=>(hk c hc).2.2;rw[hm.own] at ho;obtain⟨b,h1,h2⟩:=ho;rw[hkn.own];exact⟨b,h1,hkn.le _ _ h2⟩
theorem gG.op{aM:Array cI}{i:Nat}{rest:List Nat}{o:cI}{fn:dU}{kd:ki}{k:List Item}{cs:List bT}{v:aj}{d:Tmp}(CY:kd≠.early)(ho:aM[i]?=some o)(hg:o.guard=none)(hd:o.dst=some d)
  (h:∀w,(cu (jm fn bu (.inRegion aM (i::rest)::k) .run kd).eval o).runT P w #[]=(.ok (.value v) w,#[]))
  (hk:gG P c0 c1 z0 z1 Fin f m acc out S O (GK fn (bu.setIfInBounds d v) (.inRegion aM rest::k) kd cs) w):gG P c0 c1 z0 z1 Fin f m acc out S O (GK fn bu (.inRegion aM (i::rest)::k) kd cs) w:=by
 refine .ctl rfl rfl (fun w=>?_) rfl rfl hk;have:=O_ (P:=P) (main:=true) (fn:=fn) (tmps:=bu) (kd:=kd) (k:=k) (cs:=cs) (rest:=rest) CY ho hg (h w);rw[this];simp only[hd];rfl
end
end Go.Lag
namespace Go.Proofs.YtffladgmkiimjaaGreatDoor
open Go.RowKit Go.Lag
open Go.Conc
def mU(X:Nat->Prop)(w:ak)(v:aj)(n:Nat)(xs:List aj):Prop:=
 (v=.slice none 0 0/\n=0/\xs=[])\/∃g off cap,v=.slice (some ⟨g,off,none⟩) n cap/\(n<=4294967296/\n<=cap)/\X g/\∀j u,xs[j]?=some u->w.cell? ⟨g,off+j,none⟩=some u
def mU.to{X:Nat->Prop}{w0 w:ak}{v:aj}{n:Nat}{xs:List aj}(h:mU X w0 v n xs)(hlt:∀c,X c->c<w.heap.size)(hc:∀a:cJ,X a.block->w.cell? a=w0.cell? a):Reads w v n xs:=by
 rcases h with h|⟨g,off,cap,h1,h2,h3,h4⟩
 .exact .inl h
 exact .inr ⟨g,off,cap,h1,h2,hlt g h3,fun j u hj=>(hc ⟨g,off+j,none⟩ h3).trans (h4 j u hj)⟩
structure OW(P:aL)(b:BB)(bm aH az all:aj)(l:List dS)(ss:List Int)(ms:List Mk)(X0:Nat->Prop)(w0:ak)(xb fb tb c0 c1:Nat):Prop where
 e:P=aq
 f178:P.funcs[(178:Nat)]?=some Tryz.f178
 i159:P.inits.idxOf? 159=none
 i178:P.inits.idxOf? 178=none
 ok:b.Ok
 abw:∀a∈l,a.Ok
 Hj:∀s∈ss,1<=s/\s<=8
 mks:∀m∈ms,1<=m.minute/\m.minute<=8
 cl:Closed fw X0 w0
 low:∀c,X0 c->P.globals.size<=c
 vH:P.globals.size<=w0.heap.size
 xx:X0 xb
 xf:X0 fb
 xt:X0 tb
 xc:∀i u,(b.open bm aH az all)[i]?=some u->w0.cell? ⟨xb,i,none⟩=some u
 fc:w0.cell? ⟨fb,0,none⟩=some (.chan (some c0))
 tc:w0.cell? ⟨tb,0,none⟩=some (.chan (some c1))
 rs:mU X0 w0 aH ss.length (ss.map (aD .i64))
 rm:mU X0 w0 az ms.length (dM ms)
 ra:mU X0 w0 all l.length (rowOf l)
def Kp(X0:Nat->Prop)(w0 lw:ak):Prop:=∀c,X0 c->lw.heap[c]?=(shut X0 w0).heap[c]?
section
variable{P:aL}{b:BB}{bm aH az all:aj}{l:List dS}{ss:List Int}{ms:List Mk}{X0:Nat->Prop}{w0:ak}{xb fb tb c0 c1:Nat}
 {S O:Nat->Prop} {tmps bu:Array aj} {lw w:ak} {U:Rn} {B:Nat->Prop}
theorem Kp.cell(h:Kp X0 w0 lw){a:cJ}(ha:X0 a.block):lw.cell? a=w0.cell? a:=(iY (h _ ha)).trans (wa ha)
theorem Kp.lt(E:OW P b bm aH az all l ss ms X0 w0 xb fb tb c0 c1)(h:Kp X0 w0 lw){c:Nat}(hc:X0 c):c<lw.heap.size:=by
 obtain⟨cs,e,z,h1,_⟩:=E.cl c hc;have:=h c hc;rw[DJ h1 hc] at this;exact eJ this
theorem Kp.below(E:OW P b bm aH az all l ss ms X0 w0 xb fb tb c0 c1)(h:Kp X0 w0 lw){ey:ak}(hb:Bw lw ey):Kp X0 w0 ey:=fun c hc=>(hb.block c (h.lt E hc)).trans (h c hc)
theorem Kp.reads(E:OW P b bm aH az all l ss ms X0 w0 xb fb tb c0 c1)(h:Kp X0 w0 lw){v:aj}{n:Nat}{xs:List aj}(hr:mU X0 w0 v n xs):Reads lw v n xs:=hr.to (fun c hc=>h.lt E hc) fun a ha=>h.cell ha
theorem Kp.heap(h:Kp X0 w0 lw){ey:ak}(e:ey.heap=lw.heap):Kp X0 w0 ey:=fun c hc=>by rw[e];exact h c hc
structure St(P:aL)(X0:Nat->Prop)(w0:ak)(S O:Nat->Prop)(tmps bu:Array aj)(lw w:ak)(U:Rn)(B:Nat->Prop):Prop where
 ms:MS P fw B S O tmps bu lw w U
 id:Rn.le (x_ X0) U
 xB:∀c,X0 c->B c
 kp:Kp X0 w0 lw
 kw:∀c,X0 c->w.heap[c]?=w0.heap[c]?
theorem St.xS(st:St P X0 w0 S O tmps bu lw w U B){c:Nat}(hc:X0 c):S c:=(st.ms.shared c).2 ⟨c,st.xB c hc,st.id _ _ (vD hc)⟩
theorem Ya{U:Rn}(hid:Rn.le (x_ X0) U){a a':cJ}(ha:X0 a.block)(h:AR U a a'):a'=a:=by
 have h1:=hid _ _ (vD ha);have h2:=h.block;rw[h1] at h2;have h3:=a7 h2;have h4:=h.off;have h5:=h.spot;obtain⟨b1,o1,s1⟩:=a;obtain⟨b2,o2,s2⟩:=a';dsimp only at h3 h4 h5;subst h3;subst h4;subst h5;rfl
theorem St.ptr(st:St P X0 w0 S O tmps bu lw w U B){i:Nat}{a:cJ}(ha:X0 a.block)(hi:tmps[i]?=some (ptr a)):bu[i]?=some (ptr a):=by
 obtain⟨y,hy,hv⟩:=st.ms.get hi;cases hv with
 |@ptr _ a' FZ=>rw[Ya st.id ha FZ] at hy;exact hy
theorem St.flat(st:St P X0 w0 S O tmps bu lw w U B){i:Nat}{v:aj}(hv:v.oneCell'=true/\(match v with|.bool _|.int ..|.chan _=>true|_=>false)=true)(hi:tmps[i]?=some v):bu[i]?=some v:=by
 obtain⟨y,hy,h⟩:=st.ms.get hi;obtain⟨_,h2⟩:=hv;cases h<;>first|exact hy|cases h2
theorem St.bool(st:St P X0 w0 S O tmps bu lw w U B){i:Nat}{x:Bool}(hi:tmps[i]?=some (.bool x)):bu[i]?=some (.bool x):=st.flat ⟨rfl,rfl⟩ hi
theorem St.chan(st:St P X0 w0 S O tmps bu lw w U B){i:Nat}{x:Option Nat}(hi:tmps[i]?=some (.chan x)):bu[i]?=some (.chan x):=st.flat ⟨rfl,rfl⟩ hi
variable{z0 z1:aj}{Fin:List aj->List aj->(Nat->Prop)->(Nat->Prop)->aC->ak->Prop}{f m:Nat}{acc out:List aj}
theorem St.piece(E:OW P b bm aH az all l ss ms X0 w0 xb fb tb c0 c1)(st:St P X0 w0 S O tmps bu lw w U B){c:gQ}(hc:(iG aq fw c&&dX c)=true){R:Act->ak->Prop}(hR:∀a W' I d,R a (dn W' I d)->R a W')
  (h:∀ey,ey.heap=lw.heap->c.wp aq (fun e a W'=>e=.normal/\R a W'/\Kp X0 w0 W') ⟨tmps,[]⟩ ey) {k:List Item} {cs:List bT}
  (cont:∀nS ld kI ρ1 O1 w1,St P X0 w0 S O1 nS ld kI w1 ρ1 B->R ⟨nS,[]⟩ kI->Rn.le U ρ1->(∀c,O c->O1 c)->gG P c0 c1 z0 z1 Fin f m acc out S O1 (GK 159 ld k .normal cs) w1) :
  gG P c0 c1 z0 z1 Fin f m acc out S O (GK 159 bu (.code c::k) .normal cs) w:=by
 have hq:Quiet P:=quiet_of E.e;have Rq:uL P fw:=LQ E.e;rw[aF] at hc;refine gG.Zx hq Rq sM E.i159 (by rw[E.e];exact hc.1) hc.2 st.ms (Q:=fun a W'=>R a W'/\Kp X0 w0 W') (fun a W' I d hq=>⟨hR _ _ _ _ hq.1,hq.2⟩) (fun I d=>by rw[E.e];exact h (dn lw I d) rfl) ?_;intro nS ld kI ρ1 O1 w1 Lt hq hle hO hS;exact cont nS ld kI ρ1 O1 w1 ⟨Lt,fun b c h=>hle _ _ (st.id _ _ h),st.xB,hq.2,fun c hc=>(hS c (st.xS hc)).trans (st.kw c hc)⟩ hq.1 hle hO
end
def vy{c:gQ}(h:c∈[gR5,gR6,gR7,gR8,gR9,LP,Gs,RI,A3,A2,RH]):(iG aq fw c&&dX c)=true:=bf.1 af9 c h
end Go.Proofs.YtffladgmkiimjaaGreatDoor
