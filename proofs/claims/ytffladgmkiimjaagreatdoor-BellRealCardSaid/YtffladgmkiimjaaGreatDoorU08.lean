/- A PHASE: goroutine 0's way; what holds of the machine at every moment. .. -/
import Derived.Test.YtffladgmkiimjaaGreatDoorU07
import Derived.DyingErrors
import Derived.Test.YtffladgmkiimjaaGreatDoorU01
set_option linter.all false
set_option maxHeartbeats 0
set_option maxRecDepth 1000000
open Array renaming getElem?_setIfInBounds_ne -> aG,getElem?_eq_some_iff -> ah,replicate -> bF,getElem?_setIfInBounds_self_of_lt -> bn,append_empty -> en,mem_of_getElem? -> fq,all_eq_true' -> kn,getElem?_push -> lM,mapM_eq_mapM_toList -> pH
open Bool renaming and_eq_true -> aJ,false_eq_true -> bG
open Go renaming TypeId -> a7,Goroutine -> aH,Program -> aN,Value -> aj,World -> ak,undef -> aw,Operand -> bI,execOp -> bY,Frame -> b_,Oper -> cO,Addr -> cX,FuncId -> d_,stepG -> fE,callFunc -> fT,Event -> gO,Code -> gZ,zeroValue -> je,CallKind -> kh,unwind -> mg,partners -> xM
open Go.Conc renaming mem_ofEvents -> Cg,runT_crowd_go -> DG,served -> fF,parked -> iI,offersAt_of_not_blocked -> m9,scase -> nT,crowd -> rE
open Go.Extern renaming findNext -> dr,find -> fU
open Go.Instr renaming loadAt -> nV
open Go.IntKind renaming i64 -> af
open Go.MemAct renaming ofEvent -> gq
open Go.MemOp renaming ofEvents -> iJ
open Go.Proofs.Tryz renaming prog -> aq,f159 -> ld
open Go.Region renaming wanted -> cU
open Go.Sem renaming runT_bind' -> Hx
open Go.Value renaming int -> aD,int -> ag,tuple -> cH
open Go.stepG renaming apply -> eC,oper -> fB
open List renaming range -> aS,all_eq_true -> aX,mem_append -> bB,map_cons -> cV,mem_cons -> cj,mem_map -> dn,map_append -> eF,mem_toArray -> fe,map_nil -> fg,not_mem_nil -> gX,mem_singleton -> kg
open List.range renaming loop -> cA
open Nat renaming le_trans -> aF,le_refl -> aO,lt_of_lt_of_le -> bw,zero_le -> gD,eq_zero_or_pos -> gp,le_of_eq -> vE
open Ne renaming symm -> Cb
open Option renaming map_some -> dM,bind_some -> gW,isNone_iff_eq_none -> lz
open Option.some renaming inj -> bp,injEq -> ia
open Pure renaming pure -> eZ
namespace Go.Lag
open Go.Conc
section
variable(P:aN)(c0 c1:Nat)(z0 z1:aj)
def j0:Array CommCase:=#[rcase c0 z0,rcase c1 z1]
def aav(g:aH):Prop:=g.status=.running/\g.dying=none/\g.offers=none/\∀w,fE P true g w=.comm g (j0 c0 c1 z0 z1) true .select w #[]
def AtGo(g g' child:aH):Prop:=g.status=.running/\g.dying=none/\∀w,fE P true g w=.spawn g' child w #[]
def iN(g:aH)(k:Nat)(v:aj):Goroutine:=g.finishComm P (j0 c0 c1 z0 z1) .select k v true
inductive gV(Fin:List aj->List aj->(Nat->Prop)->(Nat->Prop)->aH->ak->Prop):Nat->Nat->List aj->List aj->(Nat->Prop)->(Nat->Prop)->aH->ak->Prop
 |fin {acc out:List aj} {S O:Nat->Prop} {g:aH} {w:ak}:g.status=.running->(∀w1,iV (fun c=>S c\/O c) w w1->Fin acc out S O g w1)->gV Fin 0 0 acc out S O g w
 |step {f m:Nat} {acc out:List aj} {S O:Nat->Prop} {g:aH} {w:ak}:g.status=.running->g.dying=none->
   (∀w1,iV (fun c=>S c\/O c) w w1->∃g2 w2 es,fE P true g w1=.go g2 w2 es/\KJ S O w1 w2 es/\g2.status=.running/\g2.dying=none)->
   (∀w1,iV (fun c=>S c\/O c) w w1->∀g2 w2 es,fE P true g w1=.go g2 w2 es->gV Fin f m acc out S (own O w1 w2) g2 w2)->gV Fin f m acc out S O g w
 |spawn {f m:Nat} {acc out:List aj} {S O Sk S' O':Nat->Prop} {g g' child:aH} {w:ak} {b:Bool} {p:aj}:AtGo P g g' child->g'.status=.running->child.status=.running->(∀c,Sk c->S c\/O c)->ig P c0 c1 Sk p b (fun _=>False) child w->
   (∀c,S' c->S c\/O c)->(∀c,O' c->O c/\¬Sk c/\¬S' c)->gV Fin (f+b.toNat) (m+1) (acc++if b then[p] else[]) out S' O' g' w->gV Fin f m acc out S O g w
 |select {f m:Nat} {acc out:List aj} {S O:Nat->Prop} {g:aH} {w:ak}:aav P c0 c1 z0 z1 g->(∀v f',f=f'+1->v∈acc->gV Fin f' (m+1) acc (out++[v]) S O (iN P c0 c1 z0 z1 g 0 v) w)->
   (f<=m->gV Fin f m acc out S O (iN P c0 c1 z0 z1 g 1 (.bool true)) w)->gV Fin f (m+1) acc out S O g w
variable{P c0 c1 z0 z1}
theorem gV.rely{Fin:List aj->List aj->(Nat->Prop)->(Nat->Prop)->aH->ak->Prop}{f m:Nat}{acc out:List aj}{S O:Nat->Prop}{g:aH}{w:ak}(h:gV P c0 c1 z0 z1 Fin f m acc out S O g w) :
  ∀ {w1:ak},iV (fun c=>S c\/O c) w w1->gV P c0 c1 z0 z1 Fin f m acc out S O g w1:=by
 induction h with
 |fin hs h=>intro w1 hr;exact .fin hs fun w2 h2=>h w2 (hr.trans h2)
 |step a b c d _=>intro w1 hr;exact .step a b (fun w2 h2=>c w2 (hr.trans h2)) fun w2 h2=>d w2 (hr.trans h2)
 |spawn h1 h2 h2' h3 h4 h5 h6 _ ih=>
  intro w1 hr;exact .spawn h1 h2 h2' h3 (h4.rely _ _ _ ⟨hr.grow,fun c hc=>hr.keep c (h3 c (by simpa using hc))⟩) h5 h6 (ih ⟨hr.grow,fun c hc=>hr.keep c (hc.elim (h5 c) fun h=>.inr (h6 c h).1)⟩)
 |select h1 _ _ ZC ih2=>intro w1 hr;exact .select h1 (fun v f' e hv=>ZC v f' e hv hr) fun hf=>ih2 hf hr
theorem gV.JK{Fin:List aj->List aj->(Nat->Prop)->(Nat->Prop)->aH->ak->Prop}{f m:Nat}{acc out:List aj}{S:Nat->Prop}{Stop:(Nat->Prop)->aH->ak->Prop}{O:Nat->Prop}{g:aH}{w:ak}(h:Walk P true S Stop O g w)
  (k:∀O g w,Stop O g w->gV P c0 c1 z0 z1 Fin f m acc out S O g w):gV P c0 c1 z0 z1 Fin f m acc out S O g w:=by
 induction h with
 |@stop O g w h=>exact k _ _ _ (h w (.refl _ _))
 |step a b c d ih=>exact .step a b c ih
end
structure Geo(c0 c1:Nat)(S0 O0:Nat->Prop)(L:List X)(n:Nat):Prop where
 JV:∀c,S0 c\/O0 c->c<n/\c≠c0/\c≠c1
 dj0:∀c,S0 c->¬O0 c
 lt:∀x∈L,∀c,x.S c\/x.O c->c<n/\c≠c0/\c≠c1
 dj:∀x∈L,∀c,x.S c->¬x.O c
 mw:∀x∈L,∀c,O0 c->¬x.S c/\¬x.O c
 wm:∀x∈L,∀c,x.O c->¬S0 c
 ww:∀x∈L,∀y∈L,x.id≠y.id->∀c,x.O c->¬y.S c/\¬y.O c
def SL(L:List X)(g c:Nat):Prop:=∃x∈L,x.id=g/\x.S c
def OL(L:List X)(g c:Nat):Prop:=∃x∈L,x.id=g/\x.O c
def act(L:List X)(g:Nat):Prop:=∃x∈L,x.id=g
def Chan(c:Nat)(w:ak):Prop:=∃s tm,w.heap[c]?=some (.chan 0 #[] false s s tm)
structure Inv(P:aN)(c0 c1:Nat)(S0 O0:Nat->Prop)(gm:aH)(L:List X)(gs:Array aH)(w:ak)(t:Trace)(q:Nat->Nat):Prop where
 zero:gs[0]?=some gm
 slot:∀x∈L,gs[x.id]?=some x.g/\0<x.id
 ws:∀x∈L,WS P c0 c1 x/\x.w=w
 nodup:(L.map X.id).Nodup
 old:∀i g,0<i->gs[i]?=some g->¬act L i->QuitsD P (q i) (Deaf t i) g
 above:∀j,gs.size<=j->Deaf t j=0
 pt:PT (act L) (SL L) (OL L) w.heap.size t
 geo:Geo c0 c1 S0 O0 L w.heap.size
 Db:Chan c0 w
 Da:Chan c1 w
 ne:c0≠c1
 wk0:∀g g' w',Chan c0 w'->Chan c1 w'->woken P g g' w' gm=gm
 st0:gm.status=.running\/gm.status=.blocked
section
variable{P:aN}{c0 c1:Nat}{S0 O0:Nat->Prop}{gm:aH}{L:List X}{gs:Array aH}{w:ak}{t:Trace}{q:Nat->Nat}
theorem PT.congr{A A':Nat->Prop}{S O S' O':Nat->Nat->Prop}{B:Nat}(h:PT A S O B t)(hA:∀g,A' g↔A g)(hS:∀g,A g->∀c,S' g c↔S g c)(hO:∀g,A g->∀c,O' g c↔O g c):PT A' S' O' B t:=by
 refine⟨h.clean,fun i a c ha hc=>(h.known i a c ha hc).imp id ?_,fun g hg i a c ha hc hs=>h.wk g ((hA g).1 hg) i a c ha hc ((hS g ((hA g).1 hg) c).1 hs),fun g hg i a c ha hc ho=>h.ow g ((hA g).1 hg) i a c ha hc ((hO g ((hA g).1 hg) c).1 ho),
  fun i g h1 h2 h3=>(h.over i g h1 h2 h3).imp id (hA g).2,h.hears,fun g hg=>h.wy g ((hA g).1 hg),h.seen,fun g hg=>h.pos g ((hA g).1 hg)⟩
 rintro⟨g,hg,h1,h2⟩;exact⟨g,(hA g).2 hg,h1,h2.imp (hO g hg c).2 fun h3=>⟨h3.1,(hS g hg c).2 h3.2⟩⟩
theorem ig.running{S:Nat->Prop}{p:aj}{b:Bool}{O:Nat->Prop}{g:aH}{w:ak}(h:ig P c0 c1 S p b O g w):g.status=.running:=by
 cases h with
 |step h _ _ _=>exact h
 |Cr h _=>exact h.1
 |Cq h _=>exact h.1
theorem WS.status{x:X}(h:WS P c0 c1 x):x.g.status=.running\/x.g.status=.blocked:=by
 cases h with
 |run h=>exact .inl h.running
 |uP _ _ _ e=>right;rw[e];rfl
 |uO _ _ _ e=>right;rw[e];rfl
theorem WS.woken{x:X}(h:WS P c0 c1 x)(h0:Chan c0 w)(h1:Chan c1 w)(g g':aH):Conc.woken P g g' w x.g=x.g:=by
 obtain⟨s,tm,h0⟩:=h0;obtain⟨s',tm',h1⟩:=h1;cases h with
 |run h=>exact woken_run h.running
 |uP _ _ _ e=>rw[e];exact woken_send_open _ _ h0
 |uO _ _ _ e=>rw[e];exact woken_send_open _ _ h1
theorem WS.rely{x:X}(h:WS P c0 c1 x){w':ak}(hr:iV (fun c=>x.S c\/x.O c) x.w w'):WS P c0 c1 (x.at w'):=by
 cases h with
 |run h=>exact .run (h.rely _ _ _ hr)
 |uP h1 h2 h3 h4=>exact .uP h1 h2 (h3.rely _ _ _ hr) h4
 |uO h1 h2 h3 h4=>exact .uO h1 h2 h3 h4
theorem LY{l:List X}(h:(l.map X.id).Nodup):∀x∈l,∀y∈l,x.id=y.id->x=y:=by
 induction l with
 |nil=>intro x hx;cases hx
 |cons a l ih=>
  simp only[cV,List.nodup_cons,dn,not_exists,not_and] at h;intro x hx y hy e;rcases cj.1 hx with rfl|hx'<;>rcases cj.1 hy with rfl|hy'
  .rfl
  .exact absurd e.symm (h.1 y hy')
  .exact absurd e (h.1 x hx')
  exact ih h.2 x hx' y hy' e
theorem oh{l1 l2:List X}{x:X}(h:((l1++x::l2).map X.id).Nodup):∀y∈l1++l2,y.id≠x.id:=by
 simp only[eF,cV,List.nodup_append,List.nodup_cons,dn,cj] at h;intro y hy e;rcases bB.1 hy with hy|hy
 .exact h.2.2 _ ⟨y,hy,rfl⟩ x.id (.inl rfl) e
 exact h.2.1.1 ⟨y,hy,e⟩
theorem Inv.size(h:Inv P c0 c1 S0 O0 gm L gs w t q):0<gs.size:=(ah.1 h.zero).1
theorem Inv.woken(h:Inv P c0 c1 S0 O0 gm L gs w t q){w':ak}(h0:Chan c0 w')(h1:Chan c1 w')(g g':aH):gs.map (Conc.woken P g g' w')=gs:=by
 apply Array.ext_getElem?;intro i;rw[Array.getElem?_map];cases hi:gs[i]? with
 |none=>rfl
 |some y=>
  simp only[dM];rcases gp i with rfl|jX
  .rw[h.zero] at hi;cases hi;rw[h.wk0 g g' w' h0 h1]
  by_cases ha:act L i
  .obtain⟨x,hx,rfl⟩:=ha;rw[(h.slot x hx).1] at hi;cases hi;rw[(h.ws x hx).1.woken h0 h1]
  rw[woken_quitsD (h.old i y jX hi ha)]
theorem Inv.awake(h:Inv P c0 c1 S0 O0 gm L gs w t q):∀x∈gs,awake x:=by
 intro y hy;obtain⟨i,hi⟩:=Array.mem_iff_getElem?.1 hy;rcases gp i with rfl|jX
 .rw[h.zero] at hi;cases hi;exact awake_of (h.st0.imp id .inl)
 by_cases ha:act L i
 .obtain⟨x,hx,rfl⟩:=ha;rw[(h.slot x hx).1] at hi;cases hi;exact awake_of ((h.ws x hx).1.status.imp id .inl)
 exact awake_of ((h.old i y jX hi ha).status.elim .inl fun x=>.inr (.inr x))
theorem tG{K:Nat->Prop}{w w':ak}(h:w'.heap=w.heap):iV K w w':=⟨by rw[h];exact aO _,fun c _=>by rw[h]⟩
theorem oq{w':ak}{L:List X}{y:X}:y∈L.map (X.at w')↔∃x∈L,y=x.at w':=by
 simp only[dn];exact⟨fun⟨x,h1,h2⟩=>⟨x,h1,h2.symm⟩,fun⟨x,h1,h2⟩=>⟨x,h1,h2.symm⟩⟩
theorem KD{w':ak}{g:Nat}:act (L.map (X.at w')) g↔act L g:=by
 constructor
 .rintro⟨y,hy,rfl⟩;obtain⟨x,hx,rfl⟩:=oq.1 hy;exact⟨x,hx,rfl⟩
 rintro⟨x,hx,rfl⟩;exact⟨x.at w',oq.2 ⟨x,hx,rfl⟩,rfl⟩
theorem aao{w':ak}{g c:Nat}:SL (L.map (X.at w')) g c↔SL L g c:=by
 constructor
 .rintro⟨y,hy,rfl,hs⟩;obtain⟨x,hx,rfl⟩:=oq.1 hy;exact⟨x,hx,rfl,hs⟩
 rintro⟨x,hx,rfl,hs⟩;exact⟨x.at w',oq.2 ⟨x,hx,rfl⟩,rfl,hs⟩
theorem aaq{w':ak}{g c:Nat}:OL (L.map (X.at w')) g c↔OL L g c:=by
 constructor
 .rintro⟨y,hy,rfl,hs⟩;obtain⟨x,hx,rfl⟩:=oq.1 hy;exact⟨x,hx,rfl,hs⟩
 rintro⟨x,hx,rfl,hs⟩;exact⟨x.at w',oq.2 ⟨x,hx,rfl⟩,rfl,hs⟩
theorem Geo.at{n:Nat}{w':ak}(h:Geo c0 c1 S0 O0 L n){n':Nat}(hn:n<=n'):Geo c0 c1 S0 O0 (L.map (X.at w')) n':=by
 have lift:∀ {Q:X->Prop},(∀x∈L,Q (x.at w'))->∀y∈L.map (X.at w'),Q y:=fun hq y hy=>by
  obtain⟨x,hx,rfl⟩:=oq.1 hy;exact hq x hx
 refine⟨fun c hc=>?_,h.dj0,lift fun x hx c hc=>?_,lift fun x hx c hc=>h.dj x hx c hc,lift fun x hx c hc=>h.mw x hx c hc,lift fun x hx c hc=>h.wm x hx c hc,lift fun x hx=>lift fun y hy he c hc=>h.ww x hx y hy he c hc⟩
 .have:=h.JV c hc;exact⟨oN,this.2⟩
 have:=h.lt x hx c hc;exact⟨oN,this.2⟩
theorem UW(L:List X)(w':ak):(L.map (X.at w')).map X.id=L.map X.id:=by
 rw[List.map_map];rfl
theorem Inv.draw(h:Inv P c0 c1 S0 O0 gm L gs w t q){w':ak}(hw:w'.heap=w.heap):Inv P c0 c1 S0 O0 gm (L.map (X.at w')) gs w' t q:=by
 have hlt:w'.heap.size=w.heap.size:=by rw[hw]
 refine⟨h.zero,fun y hy=>?_,fun y hy=>?_,by rw[UW];exact h.nodup,fun i g hi hg ha=>h.old i g hi hg fun a=>ha (KD.2 a),h.above,?_,?_,?_,?_,h.ne,h.wk0,h.st0⟩
 .obtain⟨x,hx,rfl⟩:=oq.1 hy;exact h.slot x hx
 .obtain⟨x,hx,rfl⟩:=oq.1 hy;refine⟨(h.ws x hx).1.rely ?_,rfl⟩;rw[(h.ws x hx).2];exact tG hw
 .rw[hlt];exact h.pt.congr (fun g=>KD) (fun g _ c=>aao) fun g _ c=>aaq
 .exact h.geo.at oN
 .obtain⟨s,tm,e⟩:=h.Db;exact⟨s,tm,by rw[hw];exact e⟩
 obtain⟨s,tm,e⟩:=h.Da;exact⟨s,tm,by rw[hw];exact e⟩
end
open Go.ConcN (upd upd_ne upd_same sumTo sumTo_upd)
section
variable{P:aN}{c0 c1:Nat}{S0 O0:Nat->Prop}{gm:aH}{L l1 l2:List X}{x:X}{gs:Array aH}{w:ak}{t u:Trace}{q:Nat->Nat}
theorem EN{k:Nat}{fn:d_}{pos:String}{es:Array gO}{R W:Nat->Prop}{B:Nat}(h:∀e∈es,TI R W e)(hR:∀c,R c->c<B):∀op∈iJ k fn pos es,op.g=k/\KF R W op/\oA op/\op.act.low B:=by
 intro op hop;obtain⟨e,he,rfl⟩:=Cg hop;refine⟨rfl,?_⟩;obtain⟨loc,wr,sy⟩:=e;rcases h _ he with⟨a,h1,h2,h3,h4⟩|⟨r,h1,h2,h3,h4⟩|h1
 .dsimp only at h1 h2 h4;subst h1;subst h2;refine⟨?_,⟨by simp[gq],by simp[gq]⟩,hR _ h3⟩;intro y hy;simp only[gq,MemAct.touch?,ia] at hy;subst hy;exact⟨rfl,a.block,rfl,h3,h4⟩
 .dsimp only at h1 h2 h4;subst h1;subst h2;have e:gq ⟨.obj r,wr,false⟩=.access ⟨.obj r,wr,false⟩:=by cases wr<;>rfl
  dsimp only;refine⟨?_,?_,?_⟩
  .intro y hy;dsimp only at hy;rw[e] at hy;simp only[MemAct.touch?,ia] at hy;subst hy;exact⟨rfl,r,rfl,h3,h4⟩
  .unfold oA;dsimp only;rw[e];exact⟨sN,sN⟩
  rw[e];exact hR _ h3
 dsimp only at h1;subst h1;refine⟨?_,⟨by simp[gq],by simp[gq]⟩,trivial⟩;intro y hy;simp[gq,MemAct.touch?] at hy
theorem gT{w':ak}{x2 y:X}:y∈l1.map (X.at w')++x2::l2.map (X.at w')↔y=x2\/∃z∈l1++l2,y=z.at w':=by
 simp only[bB,cj,dn];constructor
 .rintro(⟨z,hz,rfl⟩|rfl|⟨z,hz,rfl⟩)
  .exact .inr ⟨z,.inl hz,rfl⟩
  .exact .inl rfl
  exact .inr ⟨z,.inr hz,rfl⟩
 rintro(rfl|⟨z,hz|hz,rfl⟩)
 .exact .inr (.inl rfl)
 .exact .inl ⟨z,hz,rfl⟩
 exact .inr (.inr ⟨z,hz,rfl⟩)
theorem qc{w':ak}{y:X}:y∈l1.map (X.at w')++l2.map (X.at w')↔∃z∈l1++l2,y=z.at w':=by
 simp only[bB,dn];constructor
 .rintro(⟨z,hz,rfl⟩|⟨z,hz,rfl⟩)
  .exact⟨z,.inl hz,rfl⟩
  exact⟨z,.inr hz,rfl⟩
 rintro⟨z,hz|hz,rfl⟩
 .exact .inl ⟨z,hz,rfl⟩
 exact .inr ⟨z,hz,rfl⟩
theorem bX{z:X}(h:z∈l1++l2):z∈l1++x::l2:=by
 rcases bB.1 h with h|h
 .exact bB.2 (.inl h)
 exact bB.2 (.inr (List.mem_cons_of_mem _ h))
theorem nI:x∈l1++x::l2:=bB.2 (.inr (List.mem_cons_self ..))
theorem nv{z:X}(h:z∈l1++x::l2):z=x\/z∈l1++l2:=by
 rcases bB.1 h with h|h
 .exact .inr (bB.2 (.inl h))
 rcases cj.1 h with rfl|h
 .exact .inl rfl
 exact .inr (bB.2 (.inr h))
theorem Ea{w':ak}{x2:X}(hid:x2.id=x.id){g:Nat}:act (l1.map (X.at w')++x2::l2.map (X.at w')) g↔act (l1++x::l2) g:=by
 constructor
 .rintro⟨y,hy,rfl⟩;rcases gT.1 hy with rfl|⟨z,hz,rfl⟩
  .exact⟨x,nI,hid.symm⟩
  exact⟨z,bX hz,rfl⟩
 rintro⟨y,hy,rfl⟩;rcases nv hy with rfl|hz
 .exact⟨x2,gT.2 (.inl rfl),hid⟩
 exact⟨y.at w',gT.2 (.inr ⟨y,hz,rfl⟩),rfl⟩
theorem Qq{w':ak}{x2:X}(hid:x2.id=x.id):(l1.map (X.at w')++x2::l2.map (X.at w')).map X.id=(l1++x::l2).map X.id:=by
 simp only[eF,cV,List.map_map,hid];rfl
theorem Inv.TK(h:Inv P c0 c1 S0 O0 gm (l1++x::l2) gs w t q){g2:aH}{w2:ak}{es:Array gO}(xX:KJ x.S x.O w w2 es)(hp:ig P c0 c1 x.S x.p x.b (own x.O w w2) g2 w2)(fn:d_)(pos:String) :
  Inv P c0 c1 S0 O0 gm (l1.map (X.at w2)++{ x with O:=own x.O w w2,g:=g2,w:=w2 }::l2.map (X.at w2)) (gs.setIfInBounds x.id g2) w2 (t++iJ x.id fn pos es) q/\iV (fun c=>S0 c\/O0 c) w w2:=by
 have hx:=nI (x:=x) (l1:=l1) (l2:=l2);have hid:({ x with O:=own x.O w w2,g:=g2,w:=w2 }:X).id=x.id:=rfl;have IK:=h.slot x hx;have hlt:x.id<gs.size:=(ah.1 IK.1).1;have hne:=oh h.nodup;have hgrow:=xX.grow;have acM:c0<w.heap.size:=by obtain⟨s,tm,e⟩:=h.Db;exact eR e
 have acL:c1<w.heap.size:=by obtain⟨s,tm,e⟩:=h.Da;exact eR e
 have xO:∀c,x.O c->c<w.heap.size/\c≠c0/\c≠c1:=fun c hc=>h.geo.lt x hx c (.inr hc);have hrel:∀K:Nat->Prop,(∀c,K c->c<w.heap.size/\¬x.O c)->iV K w w2:=fun K hK=>⟨hgrow,fun c hc=>xX.keep c (hK c hc).1 (hK c hc).2⟩
 have Um:∀c,own x.O w w2 c->c<w2.heap.size:=fun c hc=>by
  rcases hc with hc|hc
  .have:=(xO c hc).1;omega
  exact hc.2
 have aaB:∀z∈l1++l2,iV (fun c=>z.S c\/z.O c) w w2:=fun z hz=>hrel _ fun c hc=>by
  refine⟨(h.geo.lt z (bX hz) c hc).1,fun ho=>?_⟩;have:=h.geo.ww x hx z (bX hz) (fun e=>hne z hz e.symm) c ho;exact hc.elim this.1 this.2
 have ch:∀c,c<w.heap.size->(∀c',x.O c'->c'≠c)->Chan c w->Chan c w2:=fun c hcl hno ⟨s,tm,e⟩=>⟨s,tm,by rw[xX.keep c hcl (fun ho=>hno c ho rfl)];exact e⟩
 have hS:∀c,SL (l1++x::l2) x.id c->x.S c:=fun c ⟨y,hy,UX,hs⟩=>by
  have:=LY h.nodup y hy x hx UX;subst this;exact hs
 have hO:∀c,OL (l1++x::l2) x.id c->x.O c:=fun c ⟨y,hy,UX,hs⟩=>by
  have:=LY h.nodup y hy x hx UX;subst this;exact hs
 refine⟨⟨?_,?_,?_,?_,?_,?_,?_,?_,?_,?_,h.ne,h.wk0,h.st0⟩,hrel _ fun c hc=>⟨(h.geo.JV c hc).1,fun ho=>hc.elim (h.geo.wm x hx c ho) fun h0=>(h.geo.mw x hx c h0).2 ho⟩⟩
 .have:x.id≠0:=by have:=IK.2;omega
  rw[aG this];exact h.zero
 .intro y hy;rcases gT.1 hy with rfl|⟨z,hz,rfl⟩
  .exact⟨bn hlt,IK.2⟩
  have hs:=h.slot z (bX hz);refine⟨?_,hs.2⟩;show(gs.setIfInBounds x.id g2)[z.id]?=_;rw[aG (fun e=>hne z hz e.symm)];exact hs.1
 .intro y hy;rcases gT.1 hy with rfl|⟨z,hz,rfl⟩
  .exact⟨.run hp,rfl⟩
  have hs:=h.ws z (bX hz);exact⟨hs.1.rely (by rw[hs.2];exact aaB z hz),rfl⟩
 .rw[Qq hid];exact h.nodup
 .intro i g hi hg ha;have ha':¬act (l1++x::l2) i:=fun a=>ha ((Ea hid).2 a);have hix:x.id≠i:=fun e=>ha' ⟨x,hx,e⟩;rw[aG hix] at hg;rw[Deaf_other t hix _ (fun op hop=>by obtain⟨e,_,rfl⟩:=Cg hop;rfl)];exact h.old i g hi hg ha'
 .intro j hj;have hj':gs.size<=j:=by simpa using hj
  rw[Deaf_other t (g':=x.id) oN _ (fun op hop=>by obtain⟨e,_,rfl⟩:=Cg hop;rfl)];exact h.above j hj'
 .have Yt:=h.pt.appW (k:=x.id) ⟨x,hx,rfl⟩ (W:=own x.O w w2) hgrow (u:=iJ x.id fn pos es)
   (EN (fun e he=>(xX.evs e he).mono (fun c hc=>hc.imp (fun hs=>⟨x,hx,rfl,hs⟩) id) fun c hc=>hc) fun c hc=>by
    rcases hc with hc|hc
    .have:=(h.geo.lt x hx c (.inl (hS c hc))).1;omega
    exact Um c hc)
   (fun c hc=>hc.imp (fun ho=>⟨x,hx,rfl,ho⟩) fun hn=>hn.1) (fun c hc=>.inl (hO c hc))
   (fun c hc hs=>by
    rcases hc with hc|hc
    .exact h.geo.dj x hx c (hS c hs) hc
    have:=(h.geo.lt x hx c (.inl (hS c hs))).1;omega)
   (fun g hg DZ c hc=>by
    have lt':∀y∈l1++x::l2,y.id=g->¬(y.S c\/y.O c):=fun y hy Ym hyc=>by
     rcases hc with hc|hc
     .have:=h.geo.ww x hx y hy (fun e=>DZ (Ym.symm.trans e.symm)) c hc;exact hyc.elim this.1 this.2
     have:=(h.geo.lt y hy c hyc).1;omega
    exact⟨fun⟨y,hy,Ym,hs⟩=>lt' y hy Ym (.inl hs),fun⟨y,hy,Ym,hs⟩=>lt' y hy Ym (.inr hs)⟩)
   (fun g hg DZ c hc ⟨y,hy,Ym,ho⟩=>(h.geo.ww y hy x hx (fun e=>DZ (Ym.symm.trans e)) c ho).1 (hS c hc))
  refine Yt.congr (fun g=>Ea hid) (fun g hg c=>?_) fun g hg c=>?_
  .constructor
   .rintro⟨y,hy,rfl,hs⟩;rcases gT.1 hy with rfl|⟨z,hz,rfl⟩
    .exact⟨x,hx,rfl,hs⟩
    exact⟨z,bX hz,rfl,hs⟩
   rintro⟨y,hy,rfl,hs⟩;rcases nv hy with rfl|hz
   .exact⟨_,gT.2 (.inl rfl),rfl,hs⟩
   exact⟨y.at w2,gT.2 (.inr ⟨y,hz,rfl⟩),rfl,hs⟩
  by_cases e:g=x.id
  .subst e;simp only[if_true];constructor
   .rintro⟨y,hy,UX,hs⟩;rcases gT.1 hy with rfl|⟨z,hz,rfl⟩
    .exact hs
    exact absurd UX (hne z hz)
   intro hs;exact⟨_,gT.2 (.inl rfl),rfl,hs⟩
  simp only[e,if_false];constructor
  .rintro⟨y,hy,rfl,hs⟩;rcases gT.1 hy with rfl|⟨z,hz,rfl⟩
   .exact absurd rfl e
   exact⟨z,bX hz,rfl,hs⟩
  rintro⟨y,hy,rfl,hs⟩;rcases nv hy with rfl|hz
  .exact absurd rfl e
  exact⟨y.at w2,gT.2 (.inr ⟨y,hz,rfl⟩),rfl,hs⟩
 .have lift:∀ {Q:X->Prop},Q { x with O:=own x.O w w2,g:=g2,w:=w2 }->(∀z∈l1++l2,Q (z.at w2))->∀y∈l1.map (X.at w2)++{ x with O:=own x.O w w2,g:=g2,w:=w2 }::l2.map (X.at w2),Q y:=fun h1 h2 y hy=>by
   rcases gT.1 hy with rfl|⟨z,hz,rfl⟩
   .exact h1
   exact h2 z hz
  refine⟨fun c hc=>⟨by have:=(h.geo.JV c hc).1;omega,(h.geo.JV c hc).2⟩,h.geo.dj0,lift (fun c hc=>?_) fun z hz c hc=>⟨by have:=(h.geo.lt z (bX hz) c hc).1;omega,(h.geo.lt z (bX hz) c hc).2⟩,
   lift (fun c hs ho=>?_) fun z hz=>h.geo.dj z (bX hz),lift (fun c h0=>⟨(h.geo.mw x hx c h0).1,fun ho=>?_⟩) fun z hz=>h.geo.mw z (bX hz),lift (fun c ho hs=>?_) fun z hz=>h.geo.wm z (bX hz),
   lift (lift (fun e=>absurd rfl e) fun z hz he c ho=>?_) fun z hz=>lift (fun he c ho=>?_) fun z' hz' he c ho=>h.geo.ww z (bX hz) z' (bX hz') he c ho⟩
  .rcases hc with hc|hc|hc
   .have:=h.geo.lt x hx c (.inl hc);exact⟨oN,this.2⟩
   .have:=xO c hc;exact⟨oN,this.2⟩
   exact⟨hc.2,oN,oN⟩
  .rcases ho with ho|ho
   .exact h.geo.dj x hx c hs ho
   have:=(h.geo.lt x hx c (.inl hs)).1;omega
  .rcases ho with ho|ho
   .exact(h.geo.mw x hx c h0).2 ho
   have:=(h.geo.JV c (.inr h0)).1;omega
  .rcases ho with ho|ho
   .exact h.geo.wm x hx c ho hs
   have:=(h.geo.JV c (.inl hs)).1;omega
  .rcases ho with ho|ho
   .exact h.geo.ww x hx z (bX hz) he c ho
   have hz':=h.geo.lt z (bX hz) c;exact⟨fun hs=>by have:=(hz' (.inl hs)).1;omega,fun hs=>by have:=(hz' (.inr hs)).1;omega⟩
  have:=h.geo.ww z (bX hz) x hx he c ho;refine⟨this.1,fun hw=>hw.elim this.2 fun hn=>?_⟩;have:=(h.geo.lt z (bX hz) c (.inr ho)).1;omega
 .exact ch c0 acM (fun c' hc'=>(xO c' hc').2.1) h.Db
 exact ch c1 acL (fun c' hc'=>(xO c' hc').2.2) h.Da
theorem Inv.replace(h:Inv P c0 c1 S0 O0 gm (l1++x::l2) gs w t q){x2:X}(hid:x2.id=x.id)(SB:x2.S=x.S)(Xn:x2.O=x.O)(KO:WS P c0 c1 x2){w':ak}(hw2:x2.w=w'){gm':aH}{gs':Array aH}
  (g0:gs'[0]?=some gm') (gx:gs'[x.id]?=some x2.g) (gr:∀i,i≠0->i≠x.id->gs'[i]?=gs[i]?) (gz:gs'.size=gs.size)
  (hsz:w'.heap.size=w.heap.size) (Vc:∀c,c≠c0->c≠c1->w'.heap[c]?=w.heap[c]?) (Db:Chan c0 w') (Da:Chan c1 w') {t':Trace} (Yt:PT (act (l1++x::l2)) (SL (l1++x::l2)) (OL (l1++x::l2)) w.heap.size t')
  (OX:∀i,Deaf t' i=Deaf t i) (Yo:∀g g' w',Chan c0 w'->Chan c1 w'->Conc.woken P g g' w' gm'=gm') (hst:gm'.status=.running\/gm'.status=.blocked) :
  Inv P c0 c1 S0 O0 gm' (l1.map (X.at w')++x2::l2.map (X.at w')) gs' w' t' q/\iV (fun c=>S0 c\/O0 c) w w':=by
 have hx:=nI (x:=x) (l1:=l1) (l2:=l2);have hne:=oh h.nodup;have IK:=h.slot x hx;have hrel:∀K:Nat->Prop,(∀c,K c->c≠c0/\c≠c1)->iV K w w':=fun K hK=>⟨oN,fun c hc=>Vc c (hK c hc).1 (hK c hc).2⟩
 refine⟨⟨g0,?_,?_,?_,?_,?_,?_,?_,Db,Da,h.ne,Yo,hst⟩,hrel _ fun c hc=>(h.geo.JV c hc).2⟩
 .intro y hy;rcases gT.1 hy with rfl|⟨z,hz,rfl⟩
  .exact⟨by rw[hid];exact gx,by rw[hid];exact IK.2⟩
  have hs:=h.slot z (bX hz);refine⟨?_,hs.2⟩;show gs'[z.id]?=_;rw[gr z.id (by have:=hs.2;omega) (hne z hz)];exact hs.1
 .intro y hy;rcases gT.1 hy with rfl|⟨z,hz,rfl⟩
  .exact⟨KO,hw2⟩
  have hs:=h.ws z (bX hz);exact⟨hs.1.rely (by rw[hs.2];exact hrel _ fun c hc=>(h.geo.lt z (bX hz) c hc).2),rfl⟩
 .rw[Qq hid];exact h.nodup
 .intro i g hi hg ha;have ha':¬act (l1++x::l2) i:=fun a=>ha ((Ea hid).2 a);have hix:i≠x.id:=fun e=>ha' ⟨x,hx,e.symm⟩;rw[gr i oN hix] at hg;rw[OX];exact h.old i g hi hg ha'
 .intro j hj;rw[OX];exact h.above j oN
 .rw[hsz];refine Yt.congr (fun g=>Ea hid) (fun g hg c=>?_) fun g hg c=>?_
  .constructor
   .rintro⟨y,hy,rfl,hs⟩;rcases gT.1 hy with rfl|⟨z,hz,rfl⟩
    .exact⟨x,hx,hid.symm,by rw[<-SB];exact hs⟩
    exact⟨z,bX hz,rfl,hs⟩
   rintro⟨y,hy,rfl,hs⟩;rcases nv hy with rfl|hz
   .exact⟨_,gT.2 (.inl rfl),hid,by rw[SB];exact hs⟩
   exact⟨y.at w',gT.2 (.inr ⟨y,hz,rfl⟩),rfl,hs⟩
  constructor
  .rintro⟨y,hy,rfl,hs⟩;rcases gT.1 hy with rfl|⟨z,hz,rfl⟩
   .exact⟨x,hx,hid.symm,by rw[<-Xn];exact hs⟩
   exact⟨z,bX hz,rfl,hs⟩
  rintro⟨y,hy,rfl,hs⟩;rcases nv hy with rfl|hz
  .exact⟨_,gT.2 (.inl rfl),hid,by rw[Xn];exact hs⟩
  exact⟨y.at w',gT.2 (.inr ⟨y,hz,rfl⟩),rfl,hs⟩
 rw[hsz]
 have lift:∀ {Q:X->Prop},Q x2->(∀z∈l1++l2,Q (z.at w'))->∀y∈l1.map (X.at w')++x2::l2.map (X.at w'),Q y:=fun h1 h2 y hy=>by
  rcases gT.1 hy with rfl|⟨z,hz,rfl⟩
  .exact h1
  exact h2 z hz
 refine⟨h.geo.JV,h.geo.dj0,lift (by rw[SB,Xn];exact h.geo.lt x hx) fun z hz=>h.geo.lt z (bX hz),lift (by rw[SB,Xn];exact h.geo.dj x hx) fun z hz=>h.geo.dj z (bX hz),
  lift (by rw[SB,Xn];exact h.geo.mw x hx) fun z hz=>h.geo.mw z (bX hz),lift (by rw[Xn];exact h.geo.wm x hx) fun z hz=>h.geo.wm z (bX hz),
  lift (lift (fun e=>absurd rfl e) fun z hz he=>?_) fun z hz=>lift (fun he=>?_) fun z' hz' he=>h.geo.ww z (bX hz) z' (bX hz') he⟩
 .rw[Xn];rw[hid] at he;exact h.geo.ww x hx z (bX hz) he
 rw[Xn,SB];rw[hid] at he;exact h.geo.ww z (bX hz) x hx he
theorem Inv.cut(h:Inv P c0 c1 S0 O0 gm (l1++x::l2) gs w t q){g2:aH}{n:Nat}(hq:QuitsD P n 0 g2){w':ak}{gm':aH}{gs':Array aH}
  (g0:gs'[0]?=some gm') (gx:gs'[x.id]?=some g2) (gr:∀i,i≠0->i≠x.id->gs'[i]?=gs[i]?) (gz:gs'.size=gs.size)
  (hsz:w'.heap.size=w.heap.size) (Vc:∀c,c≠c0->c≠c1->w'.heap[c]?=w.heap[c]?) (Db:Chan c0 w') (Da:Chan c1 w') {t':Trace} (Yt:PT (fun g=>act (l1++x::l2) g/\g≠x.id) (SL (l1++x::l2)) (OL (l1++x::l2)) w.heap.size t')
  (OX:∀i,Deaf t' i=Deaf t i) (Yo:∀g g' w',Chan c0 w'->Chan c1 w'->Conc.woken P g g' w' gm'=gm') (hst:gm'.status=.running\/gm'.status=.blocked) :
  Inv P c0 c1 S0 O0 gm' (l1.map (X.at w')++l2.map (X.at w')) gs' w' t' (upd q x.id n)/\iV (fun c=>S0 c\/O0 c) w w':=by
 have hx:=nI (x:=x) (l1:=l1) (l2:=l2);have hne:=oh h.nodup;have IK:=h.slot x hx;have hrel:∀K:Nat->Prop,(∀c,K c->c≠c0/\c≠c1)->iV K w w':=fun K hK=>⟨oN,fun c hc=>Vc c (hK c hc).1 (hK c hc).2⟩
 have Sz:∀g,act (l1.map (X.at w')++l2.map (X.at w')) g↔act (l1++x::l2) g/\g≠x.id:=by
  intro g;constructor
  .rintro⟨y,hy,rfl⟩;obtain⟨z,hz,rfl⟩:=qc.1 hy;exact⟨⟨z,bX hz,rfl⟩,hne z hz⟩
  rintro⟨⟨y,hy,rfl⟩,hn⟩;rcases nv hy with rfl|hz
  .exact absurd rfl hn
  exact⟨y.at w',qc.2 ⟨y,hz,rfl⟩,rfl⟩
 refine⟨⟨g0,?_,?_,?_,?_,?_,?_,?_,Db,Da,h.ne,Yo,hst⟩,hrel _ fun c hc=>(h.geo.JV c hc).2⟩
 .intro y hy;obtain⟨z,hz,rfl⟩:=qc.1 hy;have hs:=h.slot z (bX hz);refine⟨?_,hs.2⟩;show gs'[z.id]?=_;rw[gr z.id (by have:=hs.2;omega) (hne z hz)];exact hs.1
 .intro y hy;obtain⟨z,hz,rfl⟩:=qc.1 hy;have hs:=h.ws z (bX hz);exact⟨hs.1.rely (by rw[hs.2];exact hrel _ fun c hc=>(h.geo.lt z (bX hz) c hc).2),rfl⟩
 .have e:(l1.map (X.at w')++l2.map (X.at w')).map X.id=l1.map X.id++l2.map X.id:=by simp only[eF,List.map_map];rfl
  rw[e];have:=h.nodup;simp only[eF,cV] at this;exact this.sublist (List.Sublist.append_left (List.sublist_cons_self _ _) _)
 .intro i g hi hg ha
  by_cases hix:i=x.id
  .subst hix;rw[gx] at hg;cases hg;rw[upd_same,OX,h.pt.wy x.id ⟨x,hx,rfl⟩];exact hq
  have ha':¬act (l1++x::l2) i:=fun a=>ha ((Sz i).2 ⟨a,hix⟩);rw[gr i oN hix] at hg;rw[OX,upd_ne q n hix];exact h.old i g hi hg ha'
 .intro j hj;rw[OX];exact h.above j oN
 .rw[hsz];refine Yt.congr Sz (fun g hg c=>?_) fun g hg c=>?_
  .constructor
   .rintro⟨y,hy,rfl,hs⟩;obtain⟨z,hz,rfl⟩:=qc.1 hy;exact⟨z,bX hz,rfl,hs⟩
   rintro⟨y,hy,rfl,hs⟩;rcases nv hy with rfl|hz
   .exact absurd rfl hg.2
   exact⟨y.at w',qc.2 ⟨y,hz,rfl⟩,rfl,hs⟩
  constructor
  .rintro⟨y,hy,rfl,hs⟩;obtain⟨z,hz,rfl⟩:=qc.1 hy;exact⟨z,bX hz,rfl,hs⟩
  rintro⟨y,hy,rfl,hs⟩;rcases nv hy with rfl|hz
  .exact absurd rfl hg.2
  exact⟨y.at w',qc.2 ⟨y,hz,rfl⟩,rfl,hs⟩
 rw[hsz]
 have lift:∀ {Q:X->Prop},(∀z∈l1++l2,Q (z.at w'))->∀y∈l1.map (X.at w')++l2.map (X.at w'),Q y:=fun h2 y hy=>by
  obtain⟨z,hz,rfl⟩:=qc.1 hy;exact h2 z hz
 exact⟨h.geo.JV,h.geo.dj0,lift fun z hz=>h.geo.lt z (bX hz),lift fun z hz=>h.geo.dj z (bX hz),lift fun z hz=>h.geo.mw z (bX hz),lift fun z hz=>h.geo.wm z (bX hz),
  lift fun z hz=>lift fun z' hz' he=>h.geo.ww z (bX hz) z' (bX hz') he⟩
theorem PT.Tm{A:Nat->Prop}{S O:Nat->Nat->Prop}{B k:Nat}(h:PT A S O B t)(hk:¬A k)(hk0:k≠0)(hu:∀op∈u,op.g=k/\op.act.touch?=none/\op.act.low B):PT A S O B (t++u):=by
 have hn:=fun op hop=>(hu op hop).2.1;refine⟨CP h.clean hn,fun i a c ha hc=>?_,fun g hg i a c ha hc hs hw=>?_,fun g hg i a c ha hc ho=>?_,fun i g h1 h2 h3=>?_,?_,fun g hg=>?_,seen_app h.seen fun op hop=>(hu op hop).2.2,h.pos⟩
 .obtain⟨hi,ha'⟩:=fH hn ha;rcases h.known i a c ha' hc with hk|⟨g,hg,OS,Fi⟩
  .exact .inl (hk.app u)
  exact .inr ⟨g,hg,g?_app OS,Fi⟩
 .obtain⟨hi,ha'⟩:=fH hn ha;exact(h.wk g hg i a c ha' hc hs hw).app u
 .obtain⟨hi,ha'⟩:=fH hn ha;exact g?_app (h.ow g hg i a c ha' hc ho)
 .obtain⟨x,c,hx,_⟩:=Aq h3;obtain⟨hi,_⟩:=fH hn hx;have OS:t.g? i=some g:=by rw[<-g?_old (u:=u) hi];exact h1
  rcases h.over i g OS h2 (rW hi h3) with⟨j,hj,hb⟩|OT
  .exact .inl ⟨j,g?_app hj,hb_app u hb⟩
  exact .inr OT
 .rw[Deaf_other t hk0 u fun op hop=>(hu op hop).1];exact h.hears
 rw[Deaf_other t (g:=g) (g':=k) (fun e=>hk (by subst e;exact hg)) u fun op hop=>(hu op hop).1];exact h.wy g hg
theorem Inv.slip(h:Inv P c0 c1 S0 O0 gm L gs w t q){i:Nat}{y:aH}(hi:gs[i]?=some y)(jX:0<i)(hrun:y.status=.running)(ha:¬act L i)(sl:Option (Nat × Nat)) :
  ∃gs' aP q',runT P (rE gs w sl) i=(.next (rE gs' w sl),aP)/\Inv P c0 c1 S0 O0 gm L gs' w (t++aP) q'/\gs'.size=gs.size/\sumTo gs.size q'<sumTo gs.size q:=by
 have hq:=h.old i y jX hi ha;have hi0:(i==0)=false:=sP;have hlt:i<gs.size:=(ah.1 hi).1;cases hqi:q i with
 |zero=>rw[hqi] at hq;rw[hq.1] at hrun;cases hrun
 |succ k=>
  rw[hqi] at hq;rcases hq with⟨hf,_⟩|⟨_,g',es,hm,aa8,hq'⟩
  .rw[hf] at hrun;cases hrun
  have jW:=DG (P:=P) (sl:=sl) (i:=i) hi (by rw[hi0];exact aa8 w);rw[h.woken h.Db h.Da] at jW
  have U1:sumTo gs.size (upd q i k)+(k+1)=sumTo gs.size q+k:=by
   have:=sumTo_upd q k id hlt;simpa [hqi] using this
  have G6:∀op∈iJ i y.frame.fn y.frame.place es,op.g=i/\op.act.touch?=none/\op.act.low w.heap.size:=fun op hop=>by
   obtain⟨e,he,rfl⟩:=Cg hop;exact⟨rfl,touch_mute (hm e he),low_mute (hm e he) _⟩
  refine⟨_,_,upd q i k,jW,⟨?_,fun x hx=>?_,h.ws,h.nodup,fun j z hj hz hna=>?_,fun j hj=>?_,h.pt.Tm ha oN G6,h.geo,h.Db,h.Da,h.ne,h.wk0,h.st0⟩,sN,oN⟩
  .rw[aG oN];exact h.zero
  .have hne:i≠x.id:=fun e=>ha ⟨x,hx,e.symm⟩;rw[aG hne];exact h.slot x hx
  .by_cases YB:i=j
   .subst YB;rw[bn hlt] at hz;obtain rfl:=bp hz;rw[upd_same,Deaf_own];exact hq'
   rw[aG YB] at hz;rw[upd_ne q k (Cb YB),Deaf_other t YB _ (fun op hop=>(G6 op hop).1)];exact h.old j z hj hz hna
  have hj':gs.size<=j:=by simpa using hj
  rw[Deaf_other t (g':=i) oN _ (fun op hop=>(G6 op hop).1)];exact h.above j hj'
theorem Inv.aaW(h:Inv P c0 c1 S0 O0 gm L gs w t q){g2:aH}{w2:ak}{es:Array gO}(xX:KJ S0 O0 w w2 es)(hrun:g2.status=.running)(fn:d_)(pos:String) :
  Inv P c0 c1 S0 (own O0 w w2) g2 (L.map (X.at w2)) (gs.setIfInBounds 0 g2) w2 (t++iJ 0 fn pos es) q:=by
 have hgrow:=xX.grow;have OQ:0<gs.size:=h.size;have acM:c0<w.heap.size:=by obtain⟨s,tm,e⟩:=h.Db;exact eR e
 have acL:c1<w.heap.size:=by obtain⟨s,tm,e⟩:=h.Da;exact eR e
 have Um:∀c,own O0 w w2 c->c<w2.heap.size:=fun c hc=>by
  rcases hc with hc|hc
  .have:=(h.geo.JV c (.inr hc)).1;omega
  exact hc.2
 have aaB:∀z∈L,iV (fun c=>z.S c\/z.O c) w w2:=fun z hz=>⟨hgrow,fun c hc=>xX.keep c (h.geo.lt z hz c hc).1 fun ho=>by
  have:=h.geo.mw z hz c ho;exact hc.elim this.1 this.2⟩
 have ch:∀c,c<w.heap.size->(∀c',O0 c'->c'≠c)->Chan c w->Chan c w2:=fun c hcl hno ⟨s,tm,e⟩=>⟨s,tm,by rw[xX.keep c hcl (fun ho=>hno c ho rfl)];exact e⟩
 have G6:=EN (k:=0) (fn:=fn) (pos:=pos) xX.evs (B:=w2.heap.size) fun c hc=>by
  rcases hc with hc|hc
  .have:=(h.geo.JV c (.inl hc)).1;omega
  exact Um c hc
 have Yt:=h.pt.app0 hgrow G6
  (fun g ⟨y0,Ml,aib⟩ c hc ⟨y,hy,Ym,ho⟩=>by
   rcases hc with hc|hc|hc
   .exact h.geo.wm y hy c ho hc
   .exact(h.geo.mw y hy c hc).2 ho
   have:=(h.geo.lt y hy c (.inr ho)).1;omega)
  (fun g ⟨y0,Ml,aib⟩ c hc ⟨y,hy,Ym,hs⟩=>by
   rcases hc with hc|hc
   .exact(h.geo.mw y hy c hc).1 hs
   have:=(h.geo.lt y hy c (.inl hs)).1;omega)
 have OX:∀i,Deaf (t++iJ 0 fn pos es) i=Deaf t i:=fun i=>iF _ _ _ fun op hop=>(G6 op hop).2.2.1;refine⟨?_,fun y hy=>?_,fun y hy=>?_,by rw[UW];exact h.nodup,fun i g hi hg ha=>?_,fun j hj=>?_,?_,?_,ch c0 acM (fun c' hc'=>(h.geo.JV c' (.inr hc')).2.1) h.Db,ch c1 acL (fun c' hc'=>(h.geo.JV c' (.inr hc')).2.2) h.Da,h.ne,fun g g' w' _ _=>woken_run hrun,.inl hrun⟩
 .rw[bn OQ]
 .obtain⟨x,hx,rfl⟩:=oq.1 hy;have hs:=h.slot x hx;refine⟨?_,hs.2⟩;show(gs.setIfInBounds 0 g2)[x.id]?=_;rw[aG (by have:=hs.2;omega)];exact hs.1
 .obtain⟨x,hx,rfl⟩:=oq.1 hy;refine⟨(h.ws x hx).1.rely ?_,rfl⟩;rw[(h.ws x hx).2];exact aaB x hx
 .rw[aG oN] at hg;rw[OX];exact h.old i g hi hg fun a=>ha (KD.2 a)
 .rw[OX];exact h.above j (by simpa using hj)
 .exact Yt.congr (fun g=>KD) (fun g _ c=>aao) fun g _ c=>aaq
 have g1:=h.geo.at (w':=w2) hgrow;refine⟨fun c hc=>?_,fun c hs ho=>?_,g1.lt,g1.dj,fun x hx c ho=>?_,g1.wm,g1.ww⟩
 .rcases hc with hc|hc|hc
  .exact g1.JV c (.inl hc)
  .exact g1.JV c (.inr hc)
  exact⟨hc.2,oN,oN⟩
 .rcases ho with ho|ho
  .exact h.geo.dj0 c hs ho
  have:=(h.geo.JV c (.inl hs)).1;omega
 rcases ho with ho|ho
 .exact g1.mw x hx c ho
 obtain⟨z,hz,rfl⟩:=oq.1 hx;exact⟨fun hs=>by have:=(h.geo.lt z hz c (.inl hs)).1;omega,fun hs=>by have:=(h.geo.lt z hz c (.inr hs)).1;omega⟩
theorem Inv.spawn(h:Inv P c0 c1 S0 O0 gm L gs w t q){g' child:aH}(hrun:g'.status=.running){Sk S' O':Nat->Prop}{b:Bool}{p:aj}(hSk:∀c,Sk c->S0 c\/O0 c)(NM:∀c,S' c->S0 c\/O0 c)(hO':∀c,O' c->O0 c/\¬Sk c/\¬S' c)(hp:ig P c0 c1 Sk p b (fun _=>False) child w){y z:MemOp}
  (hy:y.g=0/\y.act=.go gs.size) (hz:z.g=gs.size/\z.act=.start) :
  Inv P c0 c1 S' O' g' (L++[⟨gs.size,Sk,p,b,fun _=>False,child,w⟩]) ((gs.setIfInBounds 0 g').push child) w (t++#[y,z]) q:=by
 have OQ:0<gs.size:=h.size;have Mw:∀x∈L,x.id<gs.size:=fun x hx=>(ah.1 (h.slot x hx).1).1;have hna:¬act L gs.size:=fun⟨x,hx,e⟩=>by have:=Mw x hx;omega
 have hw:∀op∈#[y,z],oA op:=fun op hop=>by
  simp only[fe,cj,gX,or_false] at hop;rcases hop with rfl|rfl
  .exact⟨by rw[hy.2];simp,by rw[hy.2];simp⟩
  exact⟨by rw[hz.2];simp,by rw[hz.2];simp⟩
 have OX:∀i,Deaf (t++#[y,z]) i=Deaf t i:=fun i=>iF _ _ _ hw;have hmem:∀ {x:X},x∈L++[⟨gs.size,Sk,p,b,fun _=>False,child,w⟩]↔x∈L\/x=⟨gs.size,Sk,p,b,fun _=>False,child,w⟩:=by intro x;simp
 have Yt:=h.pt.spawn (aO _) hna oN (h.above _ (aO _)) hy hz (Sk:=Sk) fun g ⟨x0,hx0,hg0⟩ c hc ⟨x,hx,J2,ho⟩=>by
  rcases hSk c hc with hs|hs
  .exact h.geo.wm x hx c ho hs
  exact(h.geo.mw x hx c hs).2 ho
 have afI:∀c,Sk c->c<w.heap.size/\c≠c0/\c≠c1:=fun c hc=>h.geo.JV c (hSk c hc);refine⟨?_,fun x hx=>?_,fun x hx=>?_,?_,fun i g hi hg ha=>?_,fun j hj=>?_,?_,?_,h.Db,h.Da,h.ne,fun g g' w' _ _=>woken_run hrun,.inl hrun⟩
 .rw[Array.getElem?_push_lt (by simpa using OQ)];simp
 .rcases hmem.1 hx with hx|rfl
  .have hs:=h.slot x hx;have:=Mw x hx;refine⟨?_,hs.2⟩;rw[lM];rw[if_neg sP,aG (by have:=hs.2;omega)];exact hs.1
  refine⟨?_,OQ⟩;rw[lM];simp
 .rcases hmem.1 hx with hx|rfl
  .exact h.ws x hx
  exact⟨.run hp,rfl⟩
 .simp only[eF,cV,fg];rw[List.nodup_append];refine⟨h.nodup,sN,fun a ha b hb e=>?_⟩;obtain⟨x,hx,rfl⟩:=dn.1 ha;simp only[kg] at hb;have:=Mw x hx;omega
 .have hns:i≠gs.size:=fun e=>ha ⟨_,hmem.2 (.inr rfl),e.symm⟩;rw[lM,if_neg sP,aG oN] at hg;rw[OX];exact h.old i g hi hg fun⟨x,hx,e⟩=>ha ⟨x,hmem.2 (.inl hx),e⟩
 .rw[OX];exact h.above j (by simp at hj;omega)
 .refine Yt.congr (fun g=>?_) (fun g hg c=>?_) fun g hg c=>?_
  .constructor
   .rintro⟨x,hx,rfl⟩;rcases hmem.1 hx with hx|rfl
    .exact .inl ⟨x,hx,rfl⟩
    exact .inr rfl
   rintro(⟨x,hx,rfl⟩|rfl)
   .exact⟨x,hmem.2 (.inl hx),rfl⟩
   exact⟨_,hmem.2 (.inr rfl),rfl⟩
  .by_cases e:g=gs.size
   .subst e;simp only[if_true];constructor
    .rintro⟨x,hx,hxe,hs⟩;rcases hmem.1 hx with hx|rfl
     .have:=Mw x hx;omega
     exact hs
    intro hs;exact⟨_,hmem.2 (.inr rfl),rfl,hs⟩
   simp only[e,if_false];constructor
   .rintro⟨x,hx,rfl,hs⟩;rcases hmem.1 hx with hx|rfl
    .exact⟨x,hx,rfl,hs⟩
    exact absurd rfl e
   rintro⟨x,hx,rfl,hs⟩;exact⟨x,hmem.2 (.inl hx),rfl,hs⟩
  by_cases e:g=gs.size
  .subst e;simp only[if_true];constructor
   .rintro⟨x,hx,hxe,hs⟩;rcases hmem.1 hx with hx|rfl
    .have:=Mw x hx;omega
    exact hs
   intro hs;exact hs.elim
  simp only[e,if_false];constructor
  .rintro⟨x,hx,rfl,hs⟩;rcases hmem.1 hx with hx|rfl
   .exact⟨x,hx,rfl,hs⟩
   exact absurd rfl e
  rintro⟨x,hx,rfl,hs⟩;exact⟨x,hmem.2 (.inl hx),rfl,hs⟩
 have lift:∀ {Q:X->Prop},(∀x∈L,Q x)->Q ⟨gs.size,Sk,p,b,fun _=>False,child,w⟩->∀x∈L++[⟨gs.size,Sk,p,b,fun _=>False,child,w⟩],Q x:=fun h1 h2 x hx=>by
  rcases hmem.1 hx with hx|rfl
  .exact h1 x hx
  exact h2
 refine⟨fun c hc=>h.geo.JV c (hc.elim (NM c) fun h=>.inr (hO' c h).1),fun c hs ho=>(hO' c ho).2.2 hs,lift h.geo.lt fun c hc=>afI c (by simpa using hc),lift h.geo.dj fun c _ ho=>ho,lift (fun x hx c ho=>h.geo.mw x hx c (hO' c ho).1) fun c ho=>⟨(hO' c ho).2.1,fun hf=>hf⟩,
  lift (fun x hx c ho hs=>?_) fun c ho=>ho.elim,lift (fun x hx=>lift (fun x' hx' he c ho=>h.geo.ww x hx x' hx' he c ho) fun he c ho=>⟨fun hs=>?_,fun hf=>hf⟩) (lift (fun x hx he c ho=>ho.elim) fun he c ho=>ho.elim)⟩
 .rcases NM c hs with hs|hs
  .exact h.geo.wm x hx c ho hs
  exact(h.geo.mw x hx c hs).2 ho
 rcases hSk c hs with hs|hs
 .exact h.geo.wm x hx c ho hs
 exact(h.geo.mw x hx c hs).2 ho
end
section
variable{α:Type}{D E:α->α->Prop}
theorem pD.DU{f:α->α}:∀l:List α,(∀x∈l,E (f x) x)->pD E (l.map f) l
 |[],_=>.nil
 |x::l,h=>.cons (h x sN) (pD.DU l fun y hy=>h y (by simp[hy]))
theorem LT.UC{f:α->α}{x x':α}(hd:D x' x){l2:List α}(h2:∀z∈l2,E (f z) z):∀ {l1:List α},(∀z∈l1,E (f z) z)->LT D E (l1.map f++x'::l2.map f) (l1++x::l2)
 |[],_=>.head hd (.DU l2 h2)
 |y::l,h=>.tail (h y sN) (LT.UC hd h2 fun z hz=>h z (by simp[hz]))
end
def Bb(w:ak):(Nat->Question->Nat) × Os × Array (Nat × ByteArray):=(w.tape,w.os,w.output)
def KJ.Bb{S O:Nat->Prop}{w w':ak}{es:Array gO}(h:KJ S O w w' es):Lag.Bb w'=Lag.Bb w:=by
 simp only[Lag.Bb,h.tape,h.os,h.out]
def Goal(P:aN)(Fin:List aj->List aj->(Nat->Prop)->(Nat->Prop)->aH->ak->Prop)(gs:Array aH)(w:ak)(sl:Option (Nat × Nat))(t:Trace):Prop:=
 ∃N gs' g' w' sl' t' q' acc out S O,runNT P N (rE gs w sl) t=(.next (rE gs' w' sl'),t')/\Beside P gs' g' w' t' q'/\Fin acc out S O g' w'/\out.Perm acc/\Bb w'=Bb w/\w.heap.size<=w'.heap.size
def pend(L:List X):List Value:=(L.filter (·.b)).map (·.p)
structure BZ(L:List X)(f m:Nat)(acc out:List aj):Prop where
 m:L.length=m
 f:(pend L).length=f
 perm:(out++pend L).Perm acc
section
variable{P:aN}{c0 c1:Nat}{z0 z1:aj}{Fin:List aj->List aj->(Nat->Prop)->(Nat->Prop)->aH->ak->Prop}{S0 O0:Nat->Prop}{gm:aH}{L l1 l2:List X}{x x2:X}{gs gs':Array aH}{w w':ak}{t:Trace}{q:Nat->Nat}
 {sl sl':Option (Nat × Nat)} {f m:Nat} {acc out:List aj} {aP:Array MemOp}
theorem Goal.step(h:stepT P (rE gs w sl)=(.next (rE gs' w' sl'),aP))(ht:Bb w'=Bb w)(hs:w.heap.size<=w'.heap.size)(hg:Goal P Fin gs' w' sl' (t++aP)):Goal P Fin gs w sl t:=by
 obtain⟨N,gs2,g2,w2,sl2,t2,q2,acc,out,S,O,h1,h2,h3,h4,h5,h6⟩:=hg;exact⟨N+1,gs2,g2,w2,sl2,t2,q2,acc,out,S,O,by simp only[runNT,h];exact h1,h2,h3,h4,h5.trans ht,aF hs h6⟩
theorem qM(a b:List X):pend (a++b)=pend a++pend b:=by simp[pend]
theorem rN(a:List X):pend (a.map (X.at w))=pend a:=by
 induction a with
 |nil=>rfl
 |cons y a ih=>
  unfold pend at ih ⊢;simp only[cV,List.filter_cons];have e:(X.at w y).b=y.b:=rfl;rw[e];cases y.b
  .simpa using ih
  simp only[if_true,cV,ih];rfl
theorem qp(a:List X):pend (x::a)=(if x.b then[x.p] else[])++pend a:=by
 unfold pend;cases h:x.b<;>simp[List.filter_cons,h]
theorem XT:∀L:List X,(pend L).length<=L.length:=by
 intro L;unfold pend;rw[List.length_map];exact List.length_filter_le _ _
theorem BZ.mem(h:BZ (l1++x::l2) f m acc out)(hb:x.b=true):x.p∈acc:=by
 refine h.perm.mem_iff.1 ?_;simp[pend,hb]
theorem BZ.le(h:BZ L f m acc out):f<=m:=by rw[<-h.m,<-h.f];exact XT L
theorem BZ.at(h:BZ L f m acc out)(w:ak):BZ (L.map (X.at w)) f m acc out:=⟨by simpa using h.m,by rw[rN];exact h.f,by rw[rN];exact h.perm⟩
theorem BZ.mid(h:BZ (l1++x::l2) f m acc out)(hb:x2.b=x.b)(hp:x2.p=x.p)(w:ak):BZ (l1.map (X.at w)++x2::l2.map (X.at w)) f m acc out:=by
 have e:pend (l1.map (X.at w)++x2::l2.map (X.at w))=pend (l1++x::l2):=by
  rw[qM,qM,qp,qp,rN,rN,hb,hp]
 exact⟨by have:=h.m;simp at this ⊢;exact this,by rw[e];exact h.f,by rw[e];exact h.perm⟩
theorem BZ.found(h:BZ (l1++x::l2) f m acc out)(hb:x.b=true)(hb2:x2.b=false)(w:ak):∃f',f=f'+1/\BZ (l1.map (X.at w)++x2::l2.map (X.at w)) f' m acc (out++[x.p]):=by
 have e:pend (l1.map (X.at w)++x2::l2.map (X.at w))=pend l1++pend l2:=by
  rw[qM,qp,rN,rN,hb2];simp
 have e2:pend (l1++x::l2)=pend l1++x.p::pend l2:=by rw[qM,qp,hb];simp
 have hf:=h.f;rw[e2] at hf;simp only[List.length_append,List.length_cons] at hf;refine⟨(pend l1).length+(pend l2).length,oN,by have:=h.m;simp at this ⊢;exact this,by rw[e];simp,?_⟩;rw[e];refine List.Perm.trans ?_ h.perm;rw[e2];simp only[List.append_assoc];refine List.Perm.append_left out ?_;show(x.p::(pend l1++pend l2)).Perm _;exact List.perm_middle.symm
theorem BZ.last(h:BZ (l1++x::l2) f (m+1) acc out)(hb:x.b=false)(w:ak):BZ (l1.map (X.at w)++l2.map (X.at w)) f m acc out:=by
 have e:pend (l1.map (X.at w)++l2.map (X.at w))=pend (l1++x::l2):=by
  rw[qM,qM,qp,rN,rN,hb];simp
 exact⟨by have:=h.m;simp at this ⊢;omega,by rw[e];exact h.f,by rw[e];exact h.perm⟩
theorem BZ.more(h:BZ L f m acc out):BZ (L++[x]) (f+x.b.toNat) (m+1) (acc++if x.b then[x.p] else[]) out:=by
 have e:pend (L++[x])=pend L++(if x.b then[x.p] else[]):=by rw[qM,qp];simp[pend]
 refine⟨by have:=h.m;simp;exact this,?_,?_⟩
 .rw[e];have:=h.f;cases x.b<;>simp[this]
 rw[e,<-List.append_assoc];exact h.perm.append_right _
theorem Wj(h:WS P c0 c1 x):Acc (Dn P c0) x:=by
 cases h with
 |run h=>exact BV P c0 c1 h x.id
 |@uP g hb ha hp he=>
  have h2:ig P c0 c1 x.S x.p true x.O g x.w:=.Cr ha hp;have yL:=BV P c0 c1 h2 x.id;refine yL.inv (.zJ ha ?_);refine⟨x.w,.refl _ _,?_⟩;rw[<-he,<-hb];rfl
 |@uO g n hb ha hq he=>
  have h2:ig P c0 c1 x.S x.p false x.O g x.w:=.Cq ha hq;have yL:=BV P c0 c1 h2 x.id;refine yL.inv (.zJ ha ?_);refine⟨x.w,.refl _ _,?_⟩;rw[<-he,<-hb];rfl
theorem Inv.aaS(h:Inv P c0 c1 S0 O0 gm L gs w t q)(hrun:gm.status≠.blocked)(i c:Nat):xM (gs.setIfInBounds i ph) c false=[]:=by
 refine partners_nil fun j y hy=>?_;rcases getElem?_stand gs i j y hy with⟨_,rfl⟩|⟨_,hy⟩
 .exact offersAt_ph _ _
 rcases gp j with rfl|jX
 .rw[h.zero] at hy;cases hy;exact m9 hrun _ _
 by_cases ha:act L j
 .obtain⟨x,hx,rfl⟩:=ha;rw[(h.slot x hx).1] at hy;cases hy;cases(h.ws x hx).1 with
  |run hp=>exact m9 (by rw[hp.running];simp) _ _
  |uP _ _ _ e=>rw[e];exact offersAt_parked_send' _ _ _ _ _ _
  |uO _ _ _ e=>rw[e];exact offersAt_parked_send' _ _ _ _ _ _
 exact m9 (by rcases(h.old j y jX hy ha).status with e|e<;>rw[e]<;>simp) _ _
theorem xR(hw:x.w=w){w2:ak}(hr:iV (fun c=>x.S c\/x.O c) w w2):Sh (x.at w2) x:=⟨w2,by rw[hw];exact hr,rfl⟩
theorem Inv.zJ(h:Inv P c0 c1 S0 O0 gm (l1++x::l2) gs w t q)(hrun:gm.status=.running){c:Nat}{v:aj}(ha:AtSend P c v x.g)(hc:c=c0\/c=c1)(KO:WS P c0 c1 { x with g:=iI x.g #[nT c v zS] .send })(sl:Option (Nat × Nat)) :
  ∃gs',runT P (rE gs w sl) x.id=(.next (rE gs' w sl),#[])/\Inv P c0 c1 S0 O0 gm (l1.map (X.at w)++{ x with g:=iI x.g #[nT c v zS] .send }::l2.map (X.at w)) gs' w t q:=by
 have hx:=nI (x:=x) (l1:=l1) (l2:=l2);have hs:=h.slot x hx;have hlt:x.id<gs.size:=(ah.1 hs.1).1;have hch:Chan c w:=hc.elim (fun e=>e▸h.Db) fun e=>e▸h.Da;obtain⟨s,tm,hch⟩:=hch;have hid:(x.id==0)=false:=by have:=hs.2;simp;omega
 have jW:=crowd_waits (P:=P) (sl:=sl) hs.1 (show fE P (x.id==0) x.g w=_ by rw[hid];exact ha.2.2.2 w) (fun cc hcc=>by
  simp only[fe,kg] at hcc;subst hcc
  exact ways_send_none hch (gD _) (h.aaS (by rw[hrun];simp) _ _))
 refine⟨_,jW,?_⟩
 have:=(h.replace (x2:={ x with g:=iI x.g #[nT c v zS] .send }) rfl rfl rfl KO (h.ws x hx).2 (w':=w) (gm':=gm) (gs':=gs.setIfInBounds x.id (iI x.g #[nT c v zS] .send)) (t':=t)
  (by rw[aG (by have:=hs.2;omega)];exact h.zero) (bn hlt) (fun i _ hi=>aG (Cb hi)) sN rfl (fun _ _ _=>rfl) h.Db h.Da h.pt (fun _=>rfl) h.wk0 h.st0).1
 exact this
theorem yE{wn:ak}(hrun:gm.status=.running)
  (ae1:∀L gs w sl t q,Inv P c0 c1 S0 O0 gm L gs w t q->BZ L f m acc out->iV (fun c=>S0 c\/O0 c) wn w->∃gs' w' aP,runT P (rE gs w sl) 0=(.next (rE gs' w' sl),aP)/\Bb w'=Bb w/\w.heap.size<=w'.heap.size/\Goal P Fin gs' w' sl (t++aP)) :
  ∀L gs w sl t q,Inv P c0 c1 S0 O0 gm L gs w t q->BZ L f m acc out->iV (fun c=>S0 c\/O0 c) wn w->Goal P Fin gs w sl t:=by
 have key:∀L,Acc (LT (Dn P c0) Sh) L->∀M L0 gs w sl t q,pD Sh L0 L->sumTo gs.size q=M->Inv P c0 c1 S0 O0 gm L0 gs w t q->BZ L0 f m acc out->iV (fun c=>S0 c\/O0 c) wn w->Goal P Fin gs w sl t:=by
  intro L hL
  induction hL with
  |intro L _ ihL=>
   intro M
   induction M using Nat.strongRecOn with
   |ind M ihM=>
    intro L0 gs w sl t q ZL hM hinv oZ hrel;obtain⟨i,y,d1,Ei,hi,hy,hst⟩:=crowd_pick (P:=P) (w:=w) (sl:=sl) hinv.awake ⟨0,gm,hinv.zero,hrun⟩;have fo:=hinv.draw (w':=w.at d1) rfl;have tR:=oZ.at (w.at d1);have xW:iV (fun c=>S0 c\/O0 c) wn (w.at d1):=hrel.trans (tG rfl);have J5:pD Sh (L0.map (X.at (w.at d1))) L:=(pD.DU (f:=X.at (w.at d1)) L0 fun z hz=>xR (w2:=w.at d1) (hinv.ws z hz).2 (tG rfl)).trans oT ZL;rcases gp i with rfl|jX
    .obtain⟨gs',w',aP,h1,h2,h3,h4⟩:=ae1 _ gs (w.at d1) Ei t q fo tR xW;exact Goal.step (hst.trans h1) h2 h3 h4
    by_cases ha:act (L0.map (X.at (w.at d1))) i
    .obtain⟨x,hx,rfl⟩:=ha;obtain⟨l1,l2,yH⟩:=List.append_of_mem hx;rw[yH] at fo tR J5;have Sd:=nI (x:=x) (l1:=l1) (l2:=l2);have Si:=fo.slot x Sd;rw[Si.1] at hi;have hyx:x.g=y:=bp hi;subst hyx;have hxw:=(fo.ws x Sd).2;have hid:(x.id==0)=false:=sP;cases(fo.ws x Sd).1 with
     |uP _ _ _ e=>rw[e] at hy;cases hy
     |uO _ _ _ e=>rw[e] at hy;cases hy
     |run hp=>
      obtain⟨id,S,p,b,O,g,wx⟩:=x;dsimp only at hp hxw hy Si hid;subst hxw;cases hp with
      |step hr hd Mt Qw=>
       obtain⟨g2,w2,es,he,xX,hr2,hd2⟩:=Mt (w.at d1) (.refl _ _);have hwp:=Qw (w.at d1) (.refl _ _) g2 w2 es he;have jW:=DG (P:=P) (sl:=Ei) (i:=id) Si.1 (by rw[hid];exact he);obtain⟨lS,wa⟩:=fo.TK xX hwp g.frame.fn g.frame.place;rw[fo.woken lS.Db lS.Da] at jW
       have hlt:=LT.UC (D:=Dn P c0) (E:=Sh) (f:=X.at w2) (x:=⟨id,S,p,b,O,g,w.at d1⟩) (x':=⟨id,S,p,b,own O (w.at d1) w2,g2,w2⟩) (.step (w1:=w.at d1) (w2:=w2) (g2:=g2) (es:=es) hr (.refl _ _) he (mV _)) (l2:=l2)
        (fun z hz=>xR (fo.ws z (bX (bB.2 (.inr hz)))).2 (by
         refine⟨xX.grow,fun c hc=>xX.keep c (fo.geo.lt z (bX (bB.2 (.inr hz))) c hc).1 fun ho=>?_⟩;have hh:=fo.geo.ww _ Sd z (bX (bB.2 (.inr hz))) (fun e=>oh fo.nodup z (bB.2 (.inr hz)) e.symm) c ho
         exact hc.elim hh.1 hh.2)) (l1:=l1)
        (fun z hz=>xR (fo.ws z (bX (bB.2 (.inl hz)))).2 (by
         refine⟨xX.grow,fun c hc=>xX.keep c (fo.geo.lt z (bX (bB.2 (.inl hz))) c hc).1 fun ho=>?_⟩;have hh:=fo.geo.ww _ Sd z (bX (bB.2 (.inl hz))) (fun e=>oh fo.nodup z (bB.2 (.inl hz)) e.symm) c ho
         exact hc.elim hh.1 hh.2))
       refine Goal.step (hst.trans jW) xX.Bb xX.grow ?_;exact ihL _ (hlt.shift oT (FH P c0) J5) _ _ _ _ _ _ q (.refl mV _) rfl lS (tR.mid (x2:=⟨id,S,p,b,own O (w.at d1) w2,g2,w2⟩) rfl rfl w2) (xW.trans wa)
      |@Cr _ _ _ ha hp2=>
       obtain⟨gs',h1,h2⟩:=fo.zJ hrun ha (.inl rfl) (.uP rfl ha hp2 rfl) Ei;refine Goal.step (hst.trans h1) rfl (aO _) ?_
       have hlt:=LT.UC (D:=Dn P c0) (E:=Sh) (f:=X.at (w.at d1)) (x:=⟨id,S,p,true,O,g,w.at d1⟩) (x':=⟨id,S,p,true,O,iI g #[nT c0 p zS] .send,w.at d1⟩) (.zJ ha (mV _)) (l2:=l2)
        (fun z hz=>xR (fo.ws z (bX (bB.2 (.inr hz)))).2 (.refl _ _)) (l1:=l1) (fun z hz=>xR (fo.ws z (bX (bB.2 (.inl hz)))).2 (.refl _ _))
       rw[en];exact ihL _ (hlt.shift oT (FH P c0) J5) _ _ _ _ _ _ q (.refl mV _) rfl h2 (tR.mid (x2:=⟨id,S,p,true,O,iI g #[nT c0 p zS] .send,w.at d1⟩) rfl rfl _) xW
      |@Cq _ _ _ n ha hq=>
       obtain⟨gs',h1,h2⟩:=fo.zJ hrun ha (.inr rfl) (.uO rfl ha hq rfl) Ei;refine Goal.step (hst.trans h1) rfl (aO _) ?_
       have hlt:=LT.UC (D:=Dn P c0) (E:=Sh) (f:=X.at (w.at d1)) (x:=⟨id,S,p,false,O,g,w.at d1⟩) (x':=⟨id,S,p,false,O,iI g #[nT c1 (.bool true) zS] .send,w.at d1⟩) (.zJ ha (mV _)) (l2:=l2)
        (fun z hz=>xR (fo.ws z (bX (bB.2 (.inr hz)))).2 (.refl _ _)) (l1:=l1) (fun z hz=>xR (fo.ws z (bX (bB.2 (.inl hz)))).2 (.refl _ _))
       rw[en];exact ihL _ (hlt.shift oT (FH P c0) J5) _ _ _ _ _ _ q (.refl mV _) rfl h2 (tR.mid (x2:=⟨id,S,p,false,O,iI g #[nT c1 (.bool true) zS] .send,w.at d1⟩) rfl rfl _) xW
    obtain⟨gs',aP,q',h1,h2,h3,h4⟩:=fo.slip hi jX hy ha Ei;refine Goal.step (hst.trans h1) rfl (aO _) ?_;exact ihM _ (by rw[h3,<-hM];exact h4) _ _ _ _ _ q' J5 rfl h2 tR xW
 intro L gs w sl t q hinv oZ hrel;exact key L (Gf mV oT (FH P c0) L fun x hx=>Wj (hinv.ws x hx).1) _ L gs w sl t q (.refl mV _) rfl hinv oZ hrel
end
section
variable{P:aN}{c0 c1:Nat}{z0 z1:aj}{Fin:List aj->List aj->(Nat->Prop)->(Nat->Prop)->aH->ak->Prop}{S0 O0:Nat->Prop}{gm:aH}{L l1 l2:List X}{x x2:X}{gs gs':Array aH}{w w':ak}{t u:Trace}{q:Nat->Nat}
 {sl sl':Option (Nat × Nat)} {f m:Nat} {acc out:List aj} {aP:Array MemOp}
theorem Lq(w:ak)(d c s:Nat)(tm:Bool){x:Obj}(hc:w.heap[c]?=some x):((w.at d).setChan c 0 #[] false s s tm).heap[c]?=some (.chan 0 #[] false s s tm):=by
 show((w.heap).setIfInBounds c _)[c]?=_;exact bn (eR hc)
theorem uo(w:ak)(d c s:Nat)(tm:Bool){b:Nat}(hb:b≠c):((w.at d).setChan c 0 #[] false s s tm).heap[b]?=w.heap[b]?:=by
 show((w.heap).setIfInBounds c _)[b]?=_;exact aG (Cb hb)
theorem kF(w:ak)(d c s:Nat)(tm:Bool):((w.at d).setChan c 0 #[] false s s tm).heap.size=w.heap.size:=by
 show((w.heap).setIfInBounds c _).size=_;simp
theorem Av{c c' s:Nat}{tm:Bool}(d:Nat)(hc:w.heap[c]?=some (.chan 0 #[] false s s tm))(h:Chan c' w):Chan c' ((w.at d).setChan c 0 #[] false (s+1) (s+1) tm):=by
 by_cases e:c'=c
 .subst e;exact⟨s+1,tm,Lq w d c' (s+1) tm hc⟩
 obtain⟨s',tm',h⟩:=h;exact⟨s',tm',by rw[uo w d c (s+1) tm e];exact h⟩
theorem Inv.found(h:Inv P c0 c1 S0 O0 gm (l1++x::l2) gs w t q){g2:aH}(hp:ig P c0 c1 x.S x.p false x.O g2 x.w){s:Nat}{tm:Bool}(hc:w.heap[c0]?=some (.chan 0 #[] false s s tm))(d:Nat){gm':aH}(hrun:gm'.status=.running)
  (g0:gs'[0]?=some gm') (gx:gs'[x.id]?=some g2) (gr:∀i,i≠0->i≠x.id->gs'[i]?=gs[i]?) (gz:gs'.size=gs.size) (hu:Ja x.id c0 s u) :
  Inv P c0 c1 S0 O0 gm' (l1.map (X.at ((w.at d).setChan c0 0 #[] false (s+1) (s+1) tm))++{ x with b:=false,g:=g2,w:=(w.at d).setChan c0 0 #[] false (s+1) (s+1) tm }::l2.map (X.at ((w.at d).setChan c0 0 #[] false (s+1) (s+1) tm))) gs' ((w.at d).setChan c0 0 #[] false (s+1) (s+1) tm) (t++u) q/\
   iV (fun c=>S0 c\/O0 c) w ((w.at d).setChan c0 0 #[] false (s+1) (s+1) tm):=by
 have hx:=nI (x:=x) (l1:=l1) (l2:=l2);have U_:=hu.mute (B':=w.heap.size) (eR hc)
 refine h.replace (x2:={ x with b:=false,g:=g2,w:=(w.at d).setChan c0 0 #[] false (s+1) (s+1) tm }) rfl rfl rfl (.run (hp.rely _ _ _ ?_)) rfl g0 gx gr gz (kF ..) (fun c hc0 _=>uo w d c0 (s+1) tm hc0) (Av d hc h.Db) (Av d hc h.Da)
  (h.pt.adM (aO _) hu (eR hc) ⟨x,hx,rfl⟩ fun g=>by simp) (fun i=>iF _ _ _ fun op hop=>(U_ op hop).2.1) (fun g g' w' _ _=>woken_run hrun) (.inl hrun)
 rw[(h.ws x hx).2];exact⟨vE (kF w d c0 (s+1) tm).symm,fun c hcc=>uo w d c0 (s+1) tm (h.geo.lt x hx c hcc).2.1⟩
theorem Inv.last(h:Inv P c0 c1 S0 O0 gm (l1++x::l2) gs w t q){g2:aH}{n:Nat}(hq:QuitsD P n 0 g2){s:Nat}{tm:Bool}(hc:w.heap[c1]?=some (.chan 0 #[] false s s tm))(d:Nat){gm':aH}(hrun:gm'.status=.running)
  (g0:gs'[0]?=some gm') (gx:gs'[x.id]?=some g2) (gr:∀i,i≠0->i≠x.id->gs'[i]?=gs[i]?) (gz:gs'.size=gs.size) (hu:Ja x.id c1 s u) :
  Inv P c0 c1 S0 O0 gm' (l1.map (X.at ((w.at d).setChan c1 0 #[] false (s+1) (s+1) tm))++l2.map (X.at ((w.at d).setChan c1 0 #[] false (s+1) (s+1) tm))) gs' ((w.at d).setChan c1 0 #[] false (s+1) (s+1) tm) (t++u) (upd q x.id n)/\
   iV (fun c=>S0 c\/O0 c) w ((w.at d).setChan c1 0 #[] false (s+1) (s+1) tm):=by
 have hx:=nI (x:=x) (l1:=l1) (l2:=l2);have U_:=hu.mute (B':=w.heap.size) (eR hc)
 exact h.cut hq g0 gx gr gz (kF ..) (fun c _ hc1=>uo w d c1 (s+1) tm hc1) (Av d hc h.Db) (Av d hc h.Da)
  (h.pt.Rk (aO _) hu (eR hc) ⟨x,hx,rfl⟩) (fun i=>iF _ _ _ fun op hop=>(U_ op hop).2.1) (fun g g' w' _ _=>woken_run hrun) (.inl hrun)
theorem DN{i j:Nat}(Vd:j≠i)(hi:i<gs.size)(hj:j<gs.size)(a b:aH):((gs.setIfInBounds j a).setIfInBounds i b)[i]?=some b/\((gs.setIfInBounds j a).setIfInBounds i b)[j]?=some a/\(∀k,k≠i->k≠j->((gs.setIfInBounds j a).setIfInBounds i b)[k]?=gs[k]?)/\((gs.setIfInBounds j a).setIfInBounds i b).size=gs.size:=by
 refine⟨bn (by simpa using hi),?_,fun k h1 h2=>?_,sN⟩
 .rw[aG (Cb Vd),bn hj]
 rw[aG (Cb h1),aG (Cb h2)]
theorem ER(hne:c0≠c1)(g:aH):offersAt (iI g (j0 c0 c1 z0 z1) .select) c0 false=[0]/\offersAt (iI g (j0 c0 c1 z0 z1) .select) c1 false=[1]:=by
 have hb:(c1==c0)=false:=beq_eq_false_iff_ne.2 (Cb hne);have hb':(c0==c1)=false:=beq_eq_false_iff_ne.2 hne;constructor<;>simp[offersAt,iI,j0,rcase,hne,Cb hne]
theorem Inv.Qe(h:Inv P c0 c1 S0 O0 (iI gm (j0 c0 c1 z0 z1) .select) L gs w t q){i:Nat}(hi:i≠0){c k:Nat}(ho:offersAt (iI gm (j0 c0 c1 z0 z1) .select) c false=[k]):xM (gs.setIfInBounds i ph) c false=[(0,k)]:=by
 have h0:(gs.setIfInBounds i ph)[0]?=some (iI gm (j0 c0 c1 z0 z1) .select):=by rw[aG hi];exact h.zero
 rw[partners_one h0 fun j y hj hy=>?_,ho]
 .rfl
 rcases getElem?_stand gs i j y hy with⟨_,rfl⟩|⟨_,hy⟩
 .exact offersAt_ph _ _
 by_cases ha:act L j
 .obtain⟨x,hx,rfl⟩:=ha;rw[(h.slot x hx).1] at hy;cases hy;cases(h.ws x hx).1 with
  |run hp=>exact m9 (by rw[hp.running];simp) _ _
  |uP _ _ _ e=>rw[e];exact offersAt_parked_send' _ _ _ _ _ _
  |uO _ _ _ e=>rw[e];exact offersAt_parked_send' _ _ _ _ _ _
 exact m9 (by rcases(h.old j y oN hy ha).status with e|e<;>rw[e]<;>simp) _ _
theorem Ld{wn:ak}
  (H0:∀v f',f=f'+1->v∈acc->∀w,iV (fun c=>S0 c\/O0 c) wn w->∀L gs sl t q,Inv P c0 c1 S0 O0 (iN P c0 c1 z0 z1 gm 0 v) L gs w t q->BZ L f' (m+1) acc (out++[v])->Goal P Fin gs w sl t)
  (H1:f<=m->∀w,iV (fun c=>S0 c\/O0 c) wn w->∀L gs sl t q,Inv P c0 c1 S0 O0 (iN P c0 c1 z0 z1 gm 1 (.bool true)) L gs w t q->BZ L f m acc out->Goal P Fin gs w sl t) :
  ∀L gs w sl t q,Inv P c0 c1 S0 O0 (iI gm (j0 c0 c1 z0 z1) .select) L gs w t q->BZ L f (m+1) acc out->iV (fun c=>S0 c\/O0 c) wn w->(∀x∈L,x.g.status=.running)->Goal P Fin gs w sl t:=by
 have key:∀L,Acc (LT (Dn P c0) Sh) L->∀M L0 gs w sl t q,pD Sh L0 L->sumTo gs.size q=M->Inv P c0 c1 S0 O0 (iI gm (j0 c0 c1 z0 z1) .select) L0 gs w t q->BZ L0 f (m+1) acc out->iV (fun c=>S0 c\/O0 c) wn w->(∀x∈L0,x.g.status=.running)->Goal P Fin gs w sl t:=by
  intro L hL
  induction hL with
  |intro L _ ihL=>
   intro M
   induction M using Nat.strongRecOn with
   |ind M ihM=>
    intro L0 gs w sl t q ZL hM hinv oZ hrel hun
    obtain⟨x0,hx0⟩:∃x,x∈L0:=by
     cases L0 with
     |nil=>have:=oZ.m;simp at this
     |cons a l=>exact⟨a,sN⟩
    obtain⟨i,y,d1,Ei,hi,hy,hst⟩:=crowd_pick (P:=P) (w:=w) (sl:=sl) hinv.awake ⟨x0.id,x0.g,(hinv.slot x0 hx0).1,hun x0 hx0⟩;have fo:=hinv.draw (w':=w.at d1) rfl;have tR:=oZ.at (w.at d1);have xW:iV (fun c=>S0 c\/O0 c) wn (w.at d1):=hrel.trans (tG rfl)
    have aa6:∀x∈L0.map (X.at (w.at d1)),x.g.status=.running:=fun x hx=>by
     obtain⟨z,hz,rfl⟩:=oq.1 hx;exact hun z hz
    have J5:pD Sh (L0.map (X.at (w.at d1))) L:=(pD.DU (f:=X.at (w.at d1)) L0 fun z hz=>xR (w2:=w.at d1) (hinv.ws z hz).2 (tG rfl)).trans oT ZL;rcases gp i with rfl|jX
    .rw[hinv.zero] at hi;cases hi;cases hy
    by_cases ha:act (L0.map (X.at (w.at d1))) i
    .obtain⟨x,hx,rfl⟩:=ha;obtain⟨l1,l2,yH⟩:=List.append_of_mem hx;rw[yH] at fo tR J5 aa6;have Sd:=nI (x:=x) (l1:=l1) (l2:=l2);have Si:=fo.slot x Sd;rw[Si.1] at hi;have hyx:x.g=y:=bp hi;subst hyx;have hxw:=(fo.ws x Sd).2;have hid:(x.id==0)=false:=sP;have abr:x.id<gs.size:=(ah.1 Si.1).1;have SD:0<gs.size:=hinv.size;cases(fo.ws x Sd).1 with
     |uP _ _ _ e=>rw[e] at hy;cases hy
     |uO _ _ _ e=>rw[e] at hy;cases hy
     |run hp=>
      obtain⟨id,S,p,b,O,g,wx⟩:=x;dsimp only at hp hxw hy Si hid abr jX;subst hxw;cases hp with
      |step hr hd Mt Qw=>
       obtain⟨g2,w2,es,he,xX,hr2,hd2⟩:=Mt (w.at d1) (.refl _ _);have hwp:=Qw (w.at d1) (.refl _ _) g2 w2 es he;have jW:=DG (P:=P) (sl:=Ei) (i:=id) Si.1 (by rw[hid];exact he);obtain⟨lS,wa⟩:=fo.TK xX hwp g.frame.fn g.frame.place;rw[fo.woken lS.Db lS.Da] at jW
       have hlt:=LT.UC (D:=Dn P c0) (E:=Sh) (f:=X.at w2) (x:=⟨id,S,p,b,O,g,w.at d1⟩) (x':=⟨id,S,p,b,own O (w.at d1) w2,g2,w2⟩) (.step (w1:=w.at d1) (w2:=w2) (g2:=g2) (es:=es) hr (.refl _ _) he (mV _)) (l2:=l2)
        (fun z hz=>xR (fo.ws z (bX (bB.2 (.inr hz)))).2 (by
         refine⟨xX.grow,fun c hc=>xX.keep c (fo.geo.lt z (bX (bB.2 (.inr hz))) c hc).1 fun ho=>?_⟩;have hh:=fo.geo.ww _ Sd z (bX (bB.2 (.inr hz))) (fun e=>oh fo.nodup z (bB.2 (.inr hz)) e.symm) c ho
         exact hc.elim hh.1 hh.2)) (l1:=l1)
        (fun z hz=>xR (fo.ws z (bX (bB.2 (.inl hz)))).2 (by
         refine⟨xX.grow,fun c hc=>xX.keep c (fo.geo.lt z (bX (bB.2 (.inl hz))) c hc).1 fun ho=>?_⟩;have hh:=fo.geo.ww _ Sd z (bX (bB.2 (.inl hz))) (fun e=>oh fo.nodup z (bB.2 (.inl hz)) e.symm) c ho
         exact hc.elim hh.1 hh.2))
       refine Goal.step (hst.trans jW) xX.Bb xX.grow ?_;refine ihL _ (hlt.shift oT (FH P c0) J5) _ _ _ _ _ _ q (.refl mV _) rfl lS (tR.mid (x2:=⟨id,S,p,b,own O (w.at d1) w2,g2,w2⟩) rfl rfl w2) (xW.trans wa) fun z hz=>?_;rcases gT.1 hz with rfl|⟨z',hz',rfl⟩
       .exact hr2
       exact aa6 z' (bX hz')
      |@Cr _ _ _ ha hp2=>
       obtain⟨s,tm,hch⟩:=fo.Db;have Vb:=crowd_send_meets_sel (P:=P) (sl:=Ei) (j:=0) (k:=0) (gj:=gm) (cs:=j0 c0 c1 z0 z1) (shj:=.select) (zj:=z0) Si.1 (show fE P (id==0) g (w.at d1)=_ by rw[hid];exact ha.2.2.2 (w.at d1)) hch oN fo.zero rfl (fo.Qe oN (ER fo.ne gm).1);obtain⟨e1,e2,e3,e4⟩:=DN (gs:=gs) (i:=id) (j:=0) oN abr SD (iN P c0 c1 z0 z1 gm 0 p) (fF g aw);obtain⟨f',hf',Ac⟩:=tR.found (x2:=⟨id,S,p,false,O,fF g aw,(w.at d1).setChan c0 0 #[] false (s+1) (s+1) tm⟩) rfl rfl ((w.at d1).setChan c0 0 #[] false (s+1) (s+1) tm)
       obtain⟨lS,wa⟩:=fo.found (g2:=fF g aw) hp2 hch d1 (gm':=iN P c0 c1 z0 z1 gm 0 p) rfl e2 e1 (fun i h1 h2=>e3 i h2 h1) e4 (u:=#[{ g:=id,fn:=g.frame.fn,pos:=g.frame.place,act:=.send c0 s },{ g:=0,fn:=gm.frame.fn,pos:=gm.frame.place,act:=.recv c0 s 0 },{ g:=id,fn:=g.frame.fn,pos:=g.frame.place,act:=.sendDone c0 s },{ g:=0,fn:=gm.frame.fn,pos:=gm.frame.place,act:=.recvDone c0 s }])
        ⟨_,_,_,_,_,_,_,_,_,rfl⟩
       refine Goal.step (hst.trans Vb) rfl (vE (kF w d1 c0 (s+1) tm).symm) ?_;exact H0 p f' hf' (tR.mem (x:=⟨id,S,p,true,O,g,w.at d1⟩) rfl) _ (xW.trans wa) _ _ _ _ q lS Ac
      |@Cq _ _ _ n ha hq=>
       obtain⟨s,tm,hch⟩:=fo.Da;have Vb:=crowd_send_meets_sel (P:=P) (sl:=Ei) (j:=0) (k:=1) (gj:=gm) (cs:=j0 c0 c1 z0 z1) (shj:=.select) (zj:=z1) Si.1 (show fE P (id==0) g (w.at d1)=_ by rw[hid];exact ha.2.2.2 (w.at d1)) hch oN fo.zero rfl (fo.Qe oN (ER fo.ne gm).2);obtain⟨e1,e2,e3,e4⟩:=DN (gs:=gs) (i:=id) (j:=0) oN abr SD (iN P c0 c1 z0 z1 gm 1 (.bool true)) (fF g aw);have Ac:=tR.last rfl ((w.at d1).setChan c1 0 #[] false (s+1) (s+1) tm)
       obtain⟨lS,wa⟩:=fo.last (g2:=fF g aw) hq hch d1 (gm':=iN P c0 c1 z0 z1 gm 1 (.bool true)) rfl e2 e1 (fun i h1 h2=>e3 i h2 h1) e4 (u:=#[{ g:=id,fn:=g.frame.fn,pos:=g.frame.place,act:=.send c1 s },{ g:=0,fn:=gm.frame.fn,pos:=gm.frame.place,act:=.recv c1 s 0 },{ g:=id,fn:=g.frame.fn,pos:=g.frame.place,act:=.sendDone c1 s },{ g:=0,fn:=gm.frame.fn,pos:=gm.frame.place,act:=.recvDone c1 s }])
        ⟨_,_,_,_,_,_,_,_,_,rfl⟩
       refine Goal.step (hst.trans Vb) rfl (vE (kF w d1 c1 (s+1) tm).symm) ?_;exact H1 Ac.le _ (xW.trans wa) _ _ _ _ _ lS Ac
    obtain⟨gs',aP,q',h1,h2,h3,h4⟩:=fo.slip hi jX hy ha Ei;refine Goal.step (hst.trans h1) rfl (aO _) ?_;exact ihM _ (by rw[h3,<-hM];exact h4) _ _ _ _ _ q' J5 rfl h2 tR xW aa6
 intro L gs w sl t q hinv oZ hrel hun;exact key L (Gf mV oT (FH P c0) L fun x hx=>Wj (hinv.ws x hx).1) _ L gs w sl t q (.refl mV _) rfl hinv oZ hrel hun
end
section
variable{P:aN}{c0 c1:Nat}{z0 z1:aj}{Fin:List aj->List aj->(Nat->Prop)->(Nat->Prop)->aH->ak->Prop}{S0 O0:Nat->Prop}{gm:aH}{L l1 l2:List X}{x x2:X}{gs gs':Array aH}{w w':ak}{t u:Trace}{q:Nat->Nat}
 {sl sl':Option (Nat × Nat)} {f m:Nat} {acc out:List aj} {aP:Array MemOp}
theorem Inv.P_(h:Inv P c0 c1 S0 O0 gm L gs w t q){c j k:Nat}(hjk:(j,k)∈xM (gs.setIfInBounds 0 ph) c true) :
  k=0/\j≠0/\∃x∈L,x.id=j/\((c=c0/\x.b=true/\∃g,AtSend P c0 x.p g/\ig P c0 c1 x.S x.p false x.O (fF g aw) x.w/\x.g=iI g #[nT c0 x.p zS] .send)\/
   (c=c1/\x.b=false/\∃g n,AtSend P c1 (.bool true) g/\QuitsD P n 0 (fF g aw)/\x.g=iI g #[nT c1 (.bool true) zS] .send)):=by
 obtain⟨g,hg,hk⟩:=mem_partners.1 hjk;rcases getElem?_stand gs 0 j g hg with⟨_,rfl⟩|⟨hj,hg⟩
 .rw[offersAt_ph] at hk;cases hk
 by_cases ha:act L j
 .obtain⟨x,hx,rfl⟩:=ha;rw[(h.slot x hx).1] at hg;cases hg;cases(h.ws x hx).1 with
  |run hp=>rw[m9 (by rw[hp.running];simp)] at hk;cases hk
  |@uP g hb ha hp e=>
   rw[e,offersAt_parked_send] at hk;split at hk
   .rename_i hc;simp only[kg] at hk;exact⟨hk,hj,x,hx,rfl,.inl ⟨hc.symm,hb,g,ha,hp,e⟩⟩
   cases hk
  |@uO g n hb ha hq e=>
   rw[e,offersAt_parked_send] at hk;split at hk
   .rename_i hc;simp only[kg] at hk;exact⟨hk,hj,x,hx,rfl,.inr ⟨hc.symm,hb,g,n,ha,hq,e⟩⟩
   cases hk
 rw[m9 (by rcases(h.old j g oN hg ha).status with e|e<;>rw[e]<;>simp)] at hk;cases hk
theorem Ij{g gj:aH}{a b:Array CommCase}{sh sh':CommShape}(h:iI g a sh=iI gj b sh'):fF gj aw=fF g undef:=by
 have h1:g.frame=gj.frame:=by have:=congrArg Goroutine.frame h;exact this
 have h2:g.callers=gj.callers:=by have:=congrArg Goroutine.callers h;exact this
 have h3:g.dying=gj.dying:=by have:=congrArg Goroutine.dying h;exact this
 unfold fF;rw[h1,h2,h3]
theorem zI{g gj:aH}{a b:Array CommCase}{sh sh':CommShape}(h:iI g a sh=iI gj b sh'):a=b/\sh=sh':=by
 have:(iI g a sh).offers=(iI gj b sh').offers:=by rw[h]
 simpa [iI] using this
theorem Io{c c':Nat}{v v' z z':aj}(h:nT c v z=nT c' v' z'):c=c'/\v=v':=by
 simp only[nT,CommCase.mk.injEq,Value.chan.injEq,ia] at h;exact⟨h.1,h.2.1⟩
theorem RO{g:aH}{wn:ak}(h:gV P c0 c1 z0 z1 Fin f m acc out S0 O0 g wn) :
  ∀w,iV (fun c=>S0 c\/O0 c) wn w->∀L gs sl t q,Inv P c0 c1 S0 O0 g L gs w t q->BZ L f m acc out->Goal P (fun acc out S O g w=>Fin acc out S O g w/\Chan c0 w/\Chan c1 w) gs w sl t:=by
 induction h with
 |@fin acc out S O g wn hs qg=>
  intro w hr L gs sl t q hinv oZ;have hL:L=[]:=List.eq_nil_of_length_eq_zero oZ.m;subst hL;have hno:∀g,¬act [] g:=fun g ⟨x,hx,_⟩=>by cases hx
  refine⟨0,gs,g,w,sl,t,q,acc,out,S,O,rfl,⟨hinv.zero,⟨fun i y hi hy=>hinv.old i y hi hy (hno i),hinv.above⟩,hinv.pt.past hno⟩,⟨qg w hr,hinv.Db,hinv.Da⟩,?_,rfl,aO _⟩;have:=oZ.perm;simpa [pend] using this
 |@step f m acc out S O g wn hr hd Mt Qw ih=>
  intro w hrel L gs sl t q hinv oZ;refine yE (f:=f) (m:=m) (acc:=acc) (out:=out) (wn:=wn) hr (fun L gs w sl t q hinv oZ hrel=>?_) L gs w sl t q hinv oZ hrel;obtain⟨g2,w2,es,he,xX,hr2,hd2⟩:=Mt w hrel;have lS:=hinv.aaW xX hr2 g.frame.fn g.frame.place;have jW:=DG (P:=P) (sl:=sl) (i:=0) hinv.zero (show fE P (0==0) g w=_ from he);rw[hinv.woken lS.Db lS.Da] at jW;exact⟨_,_,_,jW,xX.Bb,xX.grow,ih w hrel g2 w2 es he w2 (.refl _ _) _ _ sl _ q lS (oZ.at w2)⟩
 |@spawn f m acc out S O Sk S' O' g g' child wn b p hgo hr2 hcr hSk hp NM hO' hm ih=>
  intro w hrel L gs sl t q hinv oZ;refine yE (f:=f) (m:=m) (acc:=acc) (out:=out) (wn:=wn) hgo.1 (fun L gs w sl t q hinv oZ hrel=>?_) L gs w sl t q hinv oZ hrel;have jW:=runT_crowd_spawn (P:=P) (sl:=sl) (i:=0) hinv.zero (show fE P (0==0) g w=_ from hgo.2.2 w);have hpw:ig P c0 c1 Sk p b (fun _=>False) child w:=hp.rely _ _ _ ⟨hrel.grow,fun c hc=>hrel.keep c (hSk c (by simpa using hc))⟩;have lS:=hinv.spawn hr2 hSk NM hO' hpw (y:={ g:=0,fn:=g.frame.fn,pos:=g.frame.place,act:=.go gs.size }) (z:={ g:=gs.size,fn:=child.frame.fn,pos:=g.frame.place,act:=.start }) ⟨rfl,rfl⟩ ⟨rfl,rfl⟩;refine⟨_,_,_,jW,rfl,aO _,?_⟩;exact ih w ⟨hrel.grow,fun c hc=>hrel.keep c (hc.elim (NM c) fun h=>.inr (hO' c h).1)⟩ _ _ sl _ q lS (oZ.more (x:=⟨gs.size,Sk,p,b,fun _=>False,child,w⟩))
 |@select f m acc out S O g wn Ys h0 h1 ih0 ZC=>
  intro w hrel L gs sl t q hinv oZ;refine yE (f:=f) (m:=m+1) (acc:=acc) (out:=out) (wn:=wn) Ys.1 (fun L gs w sl t q hinv oZ hrel=>?_) L gs w sl t q hinv oZ hrel;have hst:fE P (0==0) g w=.comm g #[rcase c0 z0,rcase c1 z1] true .select w #[]:=Ys.2.2.2 w;have SD:0<gs.size:=hinv.size;obtain⟨s0,tm0,hc0⟩:=hinv.Db;obtain⟨s1,tm1,hc1⟩:=hinv.Da
  by_cases hno:xM (gs.setIfInBounds 0 ph) c0 true=[]/\xM (gs.setIfInBounds 0 ph) c1 true=[]
  .
   have jW:=crowd_waits (P:=P) (sl:=sl) hinv.zero hst (fun cc hcc=>by
    simp only[fe,cj,gX,or_false] at hcc;rcases hcc with rfl|rfl
    .exact ways_recv_none hc0 hno.1
    exact ways_recv_none hc1 hno.2)
   have hun:∀x∈L,x.g.status=.running:=fun x hx=>by
    have hs:=hinv.slot x hx;have hmem:∀c k,k∈offersAt x.g c true->(x.id,k)∈xM (gs.setIfInBounds 0 ph) c true:=fun c k hk=>mem_partners.2 ⟨x.g,by rw[aG (by have:=hs.2;omega)];exact hs.1,hk⟩;cases(hinv.ws x hx).1 with
    |run hp=>exact hp.running
    |uP _ _ _ e=>
     have:=hmem c0 0 (by rw[e,offersAt_parked_send];simp);rw[hno.1] at this;cases this
    |uO _ _ _ e=>
     have:=hmem c1 0 (by rw[e,offersAt_parked_send];simp);rw[hno.2] at this;cases this
   have lS:Inv P c0 c1 S O (iI g (j0 c0 c1 z0 z1) .select) L (gs.setIfInBounds 0 (iI g (j0 c0 c1 z0 z1) .select)) w t q:=by
    refine⟨bn SD,fun x hx=>⟨?_,(hinv.slot x hx).2⟩,hinv.ws,hinv.nodup,fun i y hi hy ha=>?_,fun j hj=>hinv.above j (by simpa using hj),hinv.pt,hinv.geo,hinv.Db,hinv.Da,hinv.ne,fun a a' w' hw0 hw1=>?_,.inr rfl⟩
    .rw[aG (by have:=(hinv.slot x hx).2;omega)];exact(hinv.slot x hx).1
    .rw[aG oN] at hy;exact hinv.old i y hi hy ha
    have hag:(iI g (j0 c0 c1 z0 z1) .select).again w'=iI g (j0 c0 c1 z0 z1) .select:=by
     refine again_all_open fun cc hcc=>?_;obtain⟨s,tm,e0⟩:=hw0;obtain⟨s',tm',e1⟩:=hw1;simp only[j0,fe,cj,gX,or_false] at hcc;rcases hcc with rfl|rfl
     .exact⟨c0,z0,0,#[],s,s,tm,rfl,e0⟩
     exact⟨c1,z1,0,#[],s',s',tm',rfl,e1⟩
    unfold Conc.woken;split
    .exact hag
    rfl
   refine⟨_,_,_,jW,rfl,aO _,?_⟩;exact Ld (P:=P) (f:=f) (m:=m) (acc:=acc) (out:=out) (wn:=wn) (fun v f' e hv w hr=>ih0 v f' e hv w hr) (fun hf w hr=>ZC hf w hr) L _ w sl _ q (by rw[show t++iJ 0 g.frame.fn g.frame.place #[]=t from en ..];exact lS) oZ hrel hun
  
  obtain⟨kk,c,s,r,tm,j,gj,vj,zj,shj,d,Fq,hj0,hgj,jW⟩:=Hh (P:=P) (sl:=sl) hinv.zero hst hc0 hc1
   (by
    rcases Classical.em (xM (gs.setIfInBounds 0 ph) c0 true=[]) with e|e
    .exact .inr fun e'=>hno ⟨e,e'⟩
    exact .inl e)
   (fun c hc j k hjk=>by
    obtain⟨hk,hj,x,hx,rfl,Fi⟩:=hinv.P_ hjk;refine⟨hk,hj,?_⟩;have hs:=(hinv.slot x hx).1;rcases Fi with⟨rfl,_,g',_,_,e⟩|⟨rfl,_,g',_,_,_,e⟩
    .exact⟨g',x.p,zS,.send,by rw[hs,e]⟩
    exact⟨g',.bool true,zS,.send,by rw[hs,e]⟩)
  have hcc:c=c0\/c=c1:=by rcases Fq with⟨_,h,_⟩|⟨_,h,_⟩<;>simp[h]
  have afb:j<gs.size:=(ah.1 hgj).1;have hmem:(j,0)∈xM (gs.setIfInBounds 0 ph) c true:=mem_partners.2 ⟨_,by rw[aG (Cb hj0)];exact hgj,by rw[offersAt_parked_send];simp⟩;obtain⟨_,_,x,hx,rfl,Fi⟩:=hinv.P_ hmem
  have J2:x.g=iI gj #[nT c vj zj] shj:=by
   have:=(hinv.slot x hx).1;rw[hgj] at this;exact(bp this).symm
  obtain⟨l1,l2,yH⟩:=List.append_of_mem hx;subst yH;rcases Fi with⟨rfl,hb,g',ha,hp,e⟩|⟨rfl,hb,g',n,ha,hq,e⟩
  .rw[e] at J2;obtain⟨e1,e2⟩:=zI J2;have e3:nT c x.p zS=nT c vj zj:=by simpa using e1
   obtain⟨_,rfl⟩:=Io e3;subst e2
   have hk0:kk=0/\s=s0/\r=s0/\tm=tm0:=by
    rcases Fq with⟨h1,_,h2,h3,h4⟩|⟨_,h1,_⟩
    .exact⟨h1,h2,h3,h4⟩
    exact absurd h1 hinv.ne
   obtain⟨rfl,rfl,rfl,rfl⟩:=hk0
   have qg:gj.finishComm P #[nT c x.p zj] .send 0 aw false=fF g' undef:=by
    rw[finishComm_send];exact Ij J2
   rw[qg] at jW;obtain⟨g1,g2,g3,g4⟩:=DN (gs:=gs) (i:=0) (j:=x.id) hj0 SD afb (fF g' aw) (iN P c c1 z0 z1 g 0 x.p)
   obtain⟨lS,wa⟩:=hinv.found (g2:=fF g' aw) hp hc0 d (gm':=iN P c c1 z0 z1 g 0 x.p) rfl g1 g2 (fun i a b=>g3 i a b) g4 (u:=#[{ g:=x.id,fn:=gj.frame.fn,pos:=gj.frame.place,act:=.send c r },{ g:=0,fn:=g.frame.fn,pos:=g.frame.place,act:=.recv c r 0 },{ g:=x.id,fn:=gj.frame.fn,pos:=gj.frame.place,act:=.sendDone c r },{ g:=0,fn:=g.frame.fn,pos:=g.frame.place,act:=.recvDone c r }])
    ⟨_,_,_,_,_,_,_,_,_,rfl⟩
   obtain⟨f',hf',Ac⟩:=oZ.found (x2:={ x with b:=false,g:=fF g' aw,w:=(w.at d).setChan c 0 #[] false (r+1) (r+1) tm }) hb rfl ((w.at d).setChan c 0 #[] false (r+1) (r+1) tm);exact⟨_,_,_,jW,rfl,vE (kF w d c (r+1) tm).symm,ih0 x.p f' hf' (oZ.mem hb) _ (hrel.trans wa) _ _ sl _ q lS Ac⟩
  rw[e] at J2;obtain⟨e1,e2⟩:=zI J2;have e3:nT c (.bool true) zS=nT c vj zj:=by simpa using e1
  obtain⟨_,rfl⟩:=Io e3;subst e2
  have hk0:kk=1/\s=s1/\r=s1/\tm=tm1:=by
   rcases Fq with⟨_,h1,_⟩|⟨h1,_,h2,h3,h4⟩
   .exact absurd h1.symm hinv.ne
   exact⟨h1,h2,h3,h4⟩
  obtain⟨rfl,rfl,rfl,rfl⟩:=hk0
  have qg:gj.finishComm P #[nT c (.bool true) zj] .send 0 aw false=fF g' undef:=by
   rw[finishComm_send];exact Ij J2
  rw[qg] at jW;obtain⟨g1,g2,g3,g4⟩:=DN (gs:=gs) (i:=0) (j:=x.id) hj0 SD afb (fF g' aw) (iN P c0 c z0 z1 g 1 (.bool true))
  obtain⟨lS,wa⟩:=hinv.last (g2:=fF g' aw) hq hc1 d (gm':=iN P c0 c z0 z1 g 1 (.bool true)) rfl g1 g2 (fun i a b=>g3 i a b) g4 (u:=#[{ g:=x.id,fn:=gj.frame.fn,pos:=gj.frame.place,act:=.send c r },{ g:=0,fn:=g.frame.fn,pos:=g.frame.place,act:=.recv c r 0 },{ g:=x.id,fn:=gj.frame.fn,pos:=gj.frame.place,act:=.sendDone c r },{ g:=0,fn:=g.frame.fn,pos:=g.frame.place,act:=.recvDone c r }])
   ⟨_,_,_,_,_,_,_,_,_,rfl⟩
  have Ac:=oZ.last hb ((w.at d).setChan c 0 #[] false (r+1) (r+1) tm);exact⟨_,_,_,jW,rfl,vE (kF w d c (r+1) tm).symm,ZC Ac.le _ (hrel.trans wa) _ _ sl _ _ lS Ac⟩
theorem JF(hne:c0≠c1){g:aH}{w:ak}(h:gV P c0 c1 z0 z1 Fin 0 0 [] [] S0 O0 g w)(hg:g.status=.running)(hc0:Chan c0 w)(hc1:Chan c1 w)(ai9:∀c,S0 c\/O0 c->c<w.heap.size/\c≠c0/\c≠c1)(NK:∀c,S0 c->¬O0 c) :
  rq P (fun g' w'=>∃acc out S O,(Fin acc out S O g' w'/\Chan c0 w'/\Chan c1 w')/\out.Perm acc/\w.heap.size<=w'.heap.size/\w'.os=w.os/\w'.output=w.output) g w:=by
 intro I d gs sl t q hb;have hrel:iV (fun c=>S0 c\/O0 c) w (dH w I d):=⟨aO _,fun _ _=>rfl⟩
 have hinv:Inv P c0 c1 S0 O0 g [] gs (dH w I d) t q:=by
  refine⟨hb.zero,fun x hx=>(by cases hx),fun x hx=>(by cases hx),List.nodup_nil,fun i y hi hy _=>hb.old.old i y hi hy,hb.old.above,?_,?_,hc0,hc1,hne,fun _ _ _ _ _=>woken_run hg,.inl hg⟩
  .exact(PT.X5 (S:=SL []) (O:=OL []) hb.past).congr (fun g=>⟨fun⟨x,hx,_⟩=>(by cases hx),fun h=>h.elim⟩) (fun g hg=>hg.elim) fun g hg=>hg.elim
  exact⟨ai9,NK,fun x hx=>by(cases hx),fun x hx=>by(cases hx),fun x hx=>by(cases hx),fun x hx=>by(cases hx),fun x hx=>by(cases hx)⟩
 obtain⟨N,gs',g',w',sl',t',q',acc,out,S,O,h1,h2,h3,h4,h5,h6⟩:=RO h _ hrel [] gs sl t q hinv ⟨rfl,rfl,by simp[pend]⟩;refine⟨N,gs',g',w',w'.drawn,sl',t',q',?_,h2,acc,out,S,O,h3,h4,h6,congrArg (·.2.1) h5,congrArg (·.2.2) h5⟩;rw[h1]
 have:w'=dH w' I w'.drawn:=by
  have e:w'.tape=I:=congrArg (·.1) h5;cases w';simp only at e;subst e;rfl
 rw[<-this]
end
end Go.Lag
namespace Go.Proofs.YtffladgmkiimjaaGreatDoor
open Go.Lag
def T_:Tryz.prog.funcs.all (fun fn=>fn.body.all eb)=true:=kN
def XO:Tryz.prog.follows .staticDataAhead=true:=kN
def Qb:Tryz.prog.funcs.all (fun fn=>!(fn.name == "runtime.NumGoroutine"))=true:=kN
end Go.Proofs.YtffladgmkiimjaaGreatDoor
namespace Go.Lag
section
variable{P:aN}
theorem xj(s:String):Calm P Any (Extern.RuntimeError.text s):=trivial
theorem xl{α:Type}{Q:α->Prop}{c:Prop}[Decidable c]{t:c->Sem α}{e:¬c->Sem α}(ht:∀h,Calm P Q (t h))(he:∀h,Calm P Q (e h)):Calm P Q (dite c t e):=by
 split
 .exact ht _
 exact he _
theorem Y5(o:Option String)(f:String->String):Calm P Any (match o with|some fmt=>Extern.RuntimeError.text (f fmt)|none=>stuck "boundsError: no such code"):=by
 cases o
 .exact bL
 exact xj _
theorem BH(args):Calm P Any (Extern.RuntimeError.boundsError args):=by
 unfold Extern.RuntimeError.boundsError
 delta Extern.RuntimeError.boundsError.match_2
 refine xl (c:=args.size=1) (fun h=>?_) fun h=>bL;obtain⟨l⟩:=args
 match l,h with
 |[a],h=>
  cases a with
  |agg cs=>
   refine xl (c:=cs.size=4) (fun h=>?_) fun h=>bL;obtain⟨l⟩:=cs
   match l,h with
   |[x0,x1,x2,x3],h=>
    cases x0 with
    |int _ _=>
     cases x1 with
     |int _ _=>
      cases x2 with
      |bool _=>
       cases x3 with
       |int _ _=>exact Y5 _ _
       |_=>exact bL
      |_=>exact bL
     |_=>exact bL
    |_=>exact bL
  |_=>exact bL
theorem wH(v):Calm P Any (Extern.RuntimeError.described v):=by
 unfold Extern.RuntimeError.described
 repeat' (first
   |(with_reducible first|exact uC ..|exact jL ..|exact lj ..|exact uH ..|exact nB ..|exact rb ..|exact fL ..|exact cS|exact uE|exact bL|exact dU|exact kK|exact uG|exact q7|exact t_)
   |(with_reducible first|exact q9|exact uD|exact r7|exact rZ|exact lV|exact jH|exact nM|exact pj)
   |with_reducible exact(lU rfl)|with_reducible exact(jd rfl)
   |(with_reducible assumption)|(with_reducible apply nz;exact rfl)|(with_reducible refine qV ?_ (fun o ho=>by cases o<;>first|rfl|(revert ho;simp[gb];done)))|(refine kx (fun _ _=>?_) ?_)|(refine aU ?_ (fun _=>?_))|(refine wG ?_)|(refine qx (fun _=>?_) _)|(refine jD (fun _ _=>?_) _ _)|(refine mf (fun _ _=>?_) _ _)|(refine l_ (fun _ _=>?_) _ _)|split|intro _|dsimp only|trivial)
theorem FW(i):Calm P Any (Extern.RuntimeError.pkgpathOf i):=by
 unfold Extern.RuntimeError.pkgpathOf
 repeat' (first
   |(with_reducible first|exact uC ..|exact jL ..|exact lj ..|exact uH ..|exact nB ..|exact rb ..|exact fL ..|exact cS|exact uE|exact bL|exact dU|exact kK|exact uG|exact q7|exact t_)
   |(with_reducible first|exact q9|exact uD|exact r7|exact rZ|exact lV|exact jH|exact nM|exact pj)
   |with_reducible exact(lU rfl)|with_reducible exact(jd rfl)
   |(with_reducible assumption)|(with_reducible apply nz;exact rfl)|(with_reducible refine qV ?_ (fun o ho=>by cases o<;>first|rfl|(revert ho;simp[gb];done)))|(refine kx (fun _ _=>?_) ?_)|(refine aU ?_ (fun _=>?_))|(refine wG ?_)|(refine qx (fun _=>?_) _)|(refine jD (fun _ _=>?_) _ _)|(refine mf (fun _ _=>?_) _ _)|(refine l_ (fun _ _=>?_) _ _)|split|intro _|dsimp only|trivial)
theorem tY(args):Calm P Any (Extern.RuntimeError.typeAssertionError args):=by
 unfold Extern.RuntimeError.typeAssertionError
 repeat' (first
   |(with_reducible first|exact uC ..|exact jL ..|exact lj ..|exact uH ..|exact nB ..|exact rb ..|exact fL ..|exact xj ..|exact wH ..|exact FW ..|exact cS|exact uE|exact bL|exact dU|exact kK|exact uG|exact q7|exact t_)
   |(with_reducible first|exact q9|exact uD|exact r7|exact rZ|exact lV|exact jH|exact nM|exact pj)
   |with_reducible exact(lU rfl)|with_reducible exact(jd rfl)
   |(with_reducible assumption)|(with_reducible apply nz;exact rfl)|(with_reducible refine qV ?_ (fun o ho=>by cases o<;>first|rfl|(revert ho;simp[gb];done)))|(refine kx (fun _ _=>?_) ?_)|(refine aU ?_ (fun _=>?_))|(refine wG ?_)|(refine qx (fun _=>?_) _)|(refine jD (fun _ _=>?_) _ _)|(refine mf (fun _ _=>?_) _ _)|(refine l_ (fun _ _=>?_) _ _)|split|intro _|dsimp only|trivial)
theorem V7(o:Option TypeInfo):Calm P Any (match o with|some t=>Extern.RuntimeError.text ("hash of unhashable type: "++t.str)|_=>runtimePanic RuntimeError.nilDeref):=by
 cases o
 .exact fL _
 exact xj _
theorem sJ(args):Calm P Any (Extern.RuntimeError.unhashableTypeError args):=by
 unfold Extern.RuntimeError.unhashableTypeError
 delta Extern.RuntimeError.unhashableTypeError.match_1
 refine xl (c:=args.size=1) (fun h=>?_) fun h=>bL;obtain⟨l⟩:=args
 match l,h with
 |[a],h=>
  cases a with
  |agg cs=>
   refine xl (c:=cs.size=1) (fun h=>?_) fun h=>bL;obtain⟨l⟩:=cs
   match l,h with
   |[x0],h=>exact aU (wH _) fun o=>V7 o
  |_=>exact bL
structure Zh(P:aN)(e:Option (Array aj->Sem aj)):Prop where
 ok:∀x,e=some x->∀args,Calm P Any (x args)
theorem gg{f:d_}{fn:Func}(hf:P.funcs[f]?=some fn)(hb:fn.body=none)(hn:(fn.name == "runtime.NumGoroutine")=false)(h1:dr fn=none)(h2:Zh P (fU fn))(args:Array aj):Calm P eY (fT f args):=by
 unfold fT;refine eW (R:=fun p=>p=P) (show P=P from rfl) ?_;rintro p rfl;rw[hf];have hb':fn.body.isNone=true:=by rw[hb];rfl
 simp only[hn,hb',h1,bG,if_false,if_true];refine aU (show Calm p Any (mark (.extern f)) from⟨.inr ⟨f,rfl⟩,trivial⟩) fun _=>?_;generalize fU fn=e at h2;cases e with
 |some e=>exact aU (h2.ok e rfl args) fun _=>trivial
 |none=>
  dsimp only;split
  .exact trivial
  exact dU
end
end Go.Lag
namespace Go.Proofs.YtffladgmkiimjaaGreatDoor
open Go.Lag
def nb0{P:aN}(hP:P.funcs[(0:Nat)]?=some Tryz.f0)(args:Array aj):Go.Lag.Calm P Go.Lag.eY (fT (0:Nat) args):=by
 have h1:dr Tryz.f0=none:=kN;have h2:fU Tryz.f0=none:=lz.1 kN;have h3:Tryz.f0.body=none:=kN
 have h4:(Tryz.f0.name == "runtime.NumGoroutine")=false:=kN;refine gg (P:=P) (f:=(0:Nat)) (fn:=Tryz.f0) hP h3 h4 h1 ⟨fun x hx=>?_⟩ args;rw[h2] at hx;cases hx
def nb1{P:aN}(hP:P.funcs[(1:Nat)]?=some Tryz.f1)(args:Array aj):Go.Lag.Calm P Go.Lag.eY (fT (1:Nat) args):=by
 have h1:dr Tryz.f1=none:=kN;have h2:fU Tryz.f1=none:=lz.1 kN;have h3:Tryz.f1.body=none:=kN
 have h4:(Tryz.f1.name == "runtime.NumGoroutine")=false:=kN;refine gg (P:=P) (f:=(1:Nat)) (fn:=Tryz.f1) hP h3 h4 h1 ⟨fun x hx=>?_⟩ args;rw[h2] at hx;cases hx
def aem{P:aN}(hP:P.funcs[(202:Nat)]?=some Tryz.f202)(args:Array aj):Go.Lag.Calm P Go.Lag.eY (fT (202:Nat) args):=by
 have h1:dr Tryz.f202=none:=kN;have h2:fU Tryz.f202=some Extern.RuntimeError.boundsError:=kN;have h3:Tryz.f202.body=none:=kN
 have h4:(Tryz.f202.name == "runtime.NumGoroutine")=false:=kN;refine gg (P:=P) (f:=(202:Nat)) (fn:=Tryz.f202) hP h3 h4 h1 ⟨fun x hx=>?_⟩ args;rw[h2] at hx;cases hx;exact BH
def ael{P:aN}(hP:P.funcs[(203:Nat)]?=some Tryz.f203)(args:Array aj):Go.Lag.Calm P Go.Lag.eY (fT (203:Nat) args):=by
 have h1:dr Tryz.f203=none:=kN;have h2:fU Tryz.f203=some Extern.RuntimeError.nothing:=kN;have h3:Tryz.f203.body=none:=kN
 have h4:(Tryz.f203.name == "runtime.NumGoroutine")=false:=kN;refine gg (P:=P) (f:=(203:Nat)) (fn:=Tryz.f203) hP h3 h4 h1 ⟨fun x hx=>?_⟩ args;rw[h2] at hx;cases hx;exact fun args=>trivial
def aek{P:aN}(hP:P.funcs[(204:Nat)]?=some Tryz.f204)(args:Array aj):Go.Lag.Calm P Go.Lag.eY (fT (204:Nat) args):=by
 have h1:dr Tryz.f204=none:=kN
 have h2:fU Tryz.f204=some (fun args=>do pure (.string ("runtime error: ".toUTF8++(<-asString (args.getD 0 (cH #[])))))):=kN;have h3:Tryz.f204.body=none:=kN
 have h4:(Tryz.f204.name == "runtime.NumGoroutine")=false:=kN;refine gg (P:=P) (f:=(204:Nat)) (fn:=Tryz.f204) hP h3 h4 h1 ⟨fun x hx=>?_⟩ args;rw[h2] at hx;cases hx;exact fun args=>aU (lj ..) fun _=>trivial
def aej{P:aN}(hP:P.funcs[(205:Nat)]?=some Tryz.f205)(args:Array aj):Go.Lag.Calm P Go.Lag.eY (fT (205:Nat) args):=by
 have h1:dr Tryz.f205=none:=kN;have h2:fU Tryz.f205=some Extern.RuntimeError.nothing:=kN;have h3:Tryz.f205.body=none:=kN
 have h4:(Tryz.f205.name == "runtime.NumGoroutine")=false:=kN;refine gg (P:=P) (f:=(205:Nat)) (fn:=Tryz.f205) hP h3 h4 h1 ⟨fun x hx=>?_⟩ args;rw[h2] at hx;cases hx;exact fun args=>trivial
def aei{P:aN}(hP:P.funcs[(206:Nat)]?=some Tryz.f206)(args:Array aj):Go.Lag.Calm P Go.Lag.eY (fT (206:Nat) args):=by
 have h1:dr Tryz.f206=none:=kN;have h2:fU Tryz.f206=some (fun args=>do pure (.string (<-asString (args.getD 0 (cH #[]))))):=kN;have h3:Tryz.f206.body=none:=kN
 have h4:(Tryz.f206.name == "runtime.NumGoroutine")=false:=kN;refine gg (P:=P) (f:=(206:Nat)) (fn:=Tryz.f206) hP h3 h4 h1 ⟨fun x hx=>?_⟩ args;rw[h2] at hx;cases hx;exact fun args=>aU (lj ..) fun _=>trivial
def aeh{P:aN}(hP:P.funcs[(207:Nat)]?=some Tryz.f207)(args:Array aj):Go.Lag.Calm P Go.Lag.eY (fT (207:Nat) args):=by
 have h1:dr Tryz.f207=none:=kN;have h2:fU Tryz.f207=some Extern.RuntimeError.nothing:=kN;have h3:Tryz.f207.body=none:=kN
 have h4:(Tryz.f207.name == "runtime.NumGoroutine")=false:=kN;refine gg (P:=P) (f:=(207:Nat)) (fn:=Tryz.f207) hP h3 h4 h1 ⟨fun x hx=>?_⟩ args;rw[h2] at hx;cases hx;exact fun args=>trivial
def aeg{P:aN}(hP:P.funcs[(208:Nat)]?=some Tryz.f208)(args:Array aj):Go.Lag.Calm P Go.Lag.eY (fT (208:Nat) args):=by
 have h1:dr Tryz.f208=none:=kN
 have h2:fU Tryz.f208=some (fun args=>do pure (.string ("runtime error: ".toUTF8++(<-asString ((<-asAgg (args.getD 0 (cH #[]))).getD 0 (cH #[])))))):=kN;have h3:Tryz.f208.body=none:=kN
 have h4:(Tryz.f208.name == "runtime.NumGoroutine")=false:=kN;refine gg (P:=P) (f:=(208:Nat)) (fn:=Tryz.f208) hP h3 h4 h1 ⟨fun x hx=>?_⟩ args;rw[h2] at hx;cases hx;exact fun args=>aU (uH ..) fun _=>aU (lj ..) fun _=>trivial
def aef{P:aN}(hP:P.funcs[(209:Nat)]?=some Tryz.f209)(args:Array aj):Go.Lag.Calm P Go.Lag.eY (fT (209:Nat) args):=by
 have h1:dr Tryz.f209=none:=kN;have h2:fU Tryz.f209=some Extern.RuntimeError.nothing:=kN;have h3:Tryz.f209.body=none:=kN
 have h4:(Tryz.f209.name == "runtime.NumGoroutine")=false:=kN;refine gg (P:=P) (f:=(209:Nat)) (fn:=Tryz.f209) hP h3 h4 h1 ⟨fun x hx=>?_⟩ args;rw[h2] at hx;cases hx;exact fun args=>trivial
def aee{P:aN}(hP:P.funcs[(210:Nat)]?=some Tryz.f210)(args:Array aj):Go.Lag.Calm P Go.Lag.eY (fT (210:Nat) args):=by
 have h1:dr Tryz.f210=none:=kN;have h2:fU Tryz.f210=some Extern.RuntimeError.typeAssertionError:=kN;have h3:Tryz.f210.body=none:=kN
 have h4:(Tryz.f210.name == "runtime.NumGoroutine")=false:=kN;refine gg (P:=P) (f:=(210:Nat)) (fn:=Tryz.f210) hP h3 h4 h1 ⟨fun x hx=>?_⟩ args;rw[h2] at hx;cases hx;exact tY
def aed{P:aN}(hP:P.funcs[(211:Nat)]?=some Tryz.f211)(args:Array aj):Go.Lag.Calm P Go.Lag.eY (fT (211:Nat) args):=by
 have h1:dr Tryz.f211=none:=kN;have h2:fU Tryz.f211=some Extern.RuntimeError.nothing:=kN;have h3:Tryz.f211.body=none:=kN
 have h4:(Tryz.f211.name == "runtime.NumGoroutine")=false:=kN;refine gg (P:=P) (f:=(211:Nat)) (fn:=Tryz.f211) hP h3 h4 h1 ⟨fun x hx=>?_⟩ args;rw[h2] at hx;cases hx;exact fun args=>trivial
def aec{P:aN}(hP:P.funcs[(212:Nat)]?=some Tryz.f212)(args:Array aj):Go.Lag.Calm P Go.Lag.eY (fT (212:Nat) args):=by
 have h1:dr Tryz.f212=none:=kN
 have h2:fU Tryz.f212=some (fun _=>Extern.RuntimeError.text "runtime error: panic called with nil argument"):=kN;have h3:Tryz.f212.body=none:=kN
 have h4:(Tryz.f212.name == "runtime.NumGoroutine")=false:=kN;refine gg (P:=P) (f:=(212:Nat)) (fn:=Tryz.f212) hP h3 h4 h1 ⟨fun x hx=>?_⟩ args;rw[h2] at hx;cases hx;exact fun args=>xj _
def aeb{P:aN}(hP:P.funcs[(213:Nat)]?=some Tryz.f213)(args:Array aj):Go.Lag.Calm P Go.Lag.eY (fT (213:Nat) args):=by
 have h1:dr Tryz.f213=none:=kN;have h2:fU Tryz.f213=some Extern.RuntimeError.nothing:=kN;have h3:Tryz.f213.body=none:=kN
 have h4:(Tryz.f213.name == "runtime.NumGoroutine")=false:=kN;refine gg (P:=P) (f:=(213:Nat)) (fn:=Tryz.f213) hP h3 h4 h1 ⟨fun x hx=>?_⟩ args;rw[h2] at hx;cases hx;exact fun args=>trivial
def aea{P:aN}(hP:P.funcs[(214:Nat)]?=some Tryz.f214)(args:Array aj):Go.Lag.Calm P Go.Lag.eY (fT (214:Nat) args):=by
 have h1:dr Tryz.f214=none:=kN;have h2:fU Tryz.f214=none:=lz.1 kN;have h3:Tryz.f214.body=none:=kN
 have h4:(Tryz.f214.name == "runtime.NumGoroutine")=false:=kN;refine gg (P:=P) (f:=(214:Nat)) (fn:=Tryz.f214) hP h3 h4 h1 ⟨fun x hx=>?_⟩ args;rw[h2] at hx;cases hx
def ad_{P:aN}(hP:P.funcs[(215:Nat)]?=some Tryz.f215)(args:Array aj):Go.Lag.Calm P Go.Lag.eY (fT (215:Nat) args):=by
 have h1:dr Tryz.f215=none:=kN;have h2:fU Tryz.f215=some Extern.RuntimeError.unhashableTypeError:=kN;have h3:Tryz.f215.body=none:=kN
 have h4:(Tryz.f215.name == "runtime.NumGoroutine")=false:=kN;refine gg (P:=P) (f:=(215:Nat)) (fn:=Tryz.f215) hP h3 h4 h1 ⟨fun x hx=>?_⟩ args;rw[h2] at hx;cases hx;exact sJ
def ad9{P:aN}(hP:P.funcs[(216:Nat)]?=some Tryz.f216)(args:Array aj):Go.Lag.Calm P Go.Lag.eY (fT (216:Nat) args):=by
 have h1:dr Tryz.f216=none:=kN;have h2:fU Tryz.f216=some Extern.RuntimeError.nothing:=kN;have h3:Tryz.f216.body=none:=kN
 have h4:(Tryz.f216.name == "runtime.NumGoroutine")=false:=kN;refine gg (P:=P) (f:=(216:Nat)) (fn:=Tryz.f216) hP h3 h4 h1 ⟨fun x hx=>?_⟩ args;rw[h2] at hx;cases hx;exact fun args=>trivial
def ad8{P:aN}(hP:P.funcs[(217:Nat)]?=some Tryz.f217)(args:Array aj):Go.Lag.Calm P Go.Lag.eY (fT (217:Nat) args):=by
 have h1:dr Tryz.f217=none:=kN;have h2:fU Tryz.f217=some (fun args=>do pure (strVal (Go.Extern.Rtype.kindName (<-asInt (args.getD 0 (cH #[]))).toNat))):=kN;have h3:Tryz.f217.body=none:=kN
 have h4:(Tryz.f217.name == "runtime.NumGoroutine")=false:=kN;refine gg (P:=P) (f:=(217:Nat)) (fn:=Tryz.f217) hP h3 h4 h1 ⟨fun x hx=>?_⟩ args;rw[h2] at hx;cases hx;exact fun args=>aU (rb ..) fun _=>trivial
def ad7{P:aN}(hP:P.funcs[(227:Nat)]?=some Tryz.f227)(args:Array aj):Go.Lag.Calm P Go.Lag.eY (fT (227:Nat) args):=by
 have h1:dr Tryz.f227=none:=kN;have h2:fU Tryz.f227=none:=lz.1 kN;have h3:Tryz.f227.body=none:=kN
 have h4:(Tryz.f227.name == "runtime.NumGoroutine")=false:=kN;refine gg (P:=P) (f:=(227:Nat)) (fn:=Tryz.f227) hP h3 h4 h1 ⟨fun x hx=>?_⟩ args;rw[h2] at hx;cases hx
def ad6{P:aN}(hP:P.funcs[(228:Nat)]?=some Tryz.f228)(args:Array aj):Go.Lag.Calm P Go.Lag.eY (fT (228:Nat) args):=by
 have h1:dr Tryz.f228=none:=kN;have h2:fU Tryz.f228=none:=lz.1 kN;have h3:Tryz.f228.body=none:=kN
 have h4:(Tryz.f228.name == "runtime.NumGoroutine")=false:=kN;refine gg (P:=P) (f:=(228:Nat)) (fn:=Tryz.f228) hP h3 h4 h1 ⟨fun x hx=>?_⟩ args;rw[h2] at hx;cases hx
def ad5{P:aN}(hP:P.funcs[(229:Nat)]?=some Tryz.f229)(args:Array aj):Go.Lag.Calm P Go.Lag.eY (fT (229:Nat) args):=by
 have h1:dr Tryz.f229=none:=kN;have h2:fU Tryz.f229=none:=lz.1 kN;have h3:Tryz.f229.body=none:=kN
 have h4:(Tryz.f229.name == "runtime.NumGoroutine")=false:=kN;refine gg (P:=P) (f:=(229:Nat)) (fn:=Tryz.f229) hP h3 h4 h1 ⟨fun x hx=>?_⟩ args;rw[h2] at hx;cases hx
def bl:List Nat:=[0,1,202,203,204,205,206,207,208,209,210,211,212,213,214,215,216,217,227,228,229]
def T9:(aS Tryz.prog.funcs.size).all (fun i=>(Tryz.prog.funcs[i]?.all (fun fn=>fn.body.isSome))||bl.contains i)=true:=kN
def adT{P:aN}(e:P.funcs=Tryz.prog.funcs)(f:d_)(fn:Func)(args:Array aj)(hf:P.funcs[f]?=some fn)(hb:fn.body=none):Go.Lag.Calm P Go.Lag.eY (fT f args):=by
 rw[e] at hf;have hlt:f<Tryz.prog.funcs.size:=(ah.1 hf).1;have h:=aX.1 T9 f (List.mem_range.2 hlt);rw[hf] at h;simp only[Option.all_some,hb,Option.isSome_none,Bool.false_or] at h;have hm:f∈bl:=by simpa using h
 clear hf h hlt;have hx:∀(n:Nat) (fN:Func),Tryz.prog.funcs[n]?=some fN->P.funcs[n]?=some fN:=fun n fN h=>by rw[e];exact h
 clear e;simp only[bl,cj,gX,or_false] at hm;rcases hm with rfl|rfl|rfl|rfl|rfl|rfl|rfl|rfl|rfl|rfl|rfl|rfl|rfl|rfl|rfl|rfl|rfl|rfl|rfl|rfl|rfl
 .exact nb0 (hx _ _ Tryz.func0) args
 .exact nb1 (hx _ _ Tryz.func1) args
 .exact aem (hx _ _ Tryz.func202) args
 .exact ael (hx _ _ Tryz.func203) args
 .exact aek (hx _ _ Tryz.func204) args
 .exact aej (hx _ _ Tryz.func205) args
 .exact aei (hx _ _ Tryz.func206) args
 .exact aeh (hx _ _ Tryz.func207) args
 .exact aeg (hx _ _ Tryz.func208) args
 .exact aef (hx _ _ Tryz.func209) args
 .exact aee (hx _ _ Tryz.func210) args
 .exact aed (hx _ _ Tryz.func211) args
 .exact aec (hx _ _ Tryz.func212) args
 .exact aeb (hx _ _ Tryz.func213) args
 .exact aea (hx _ _ Tryz.func214) args
 .exact ad_ (hx _ _ Tryz.func215) args
 .exact ad9 (hx _ _ Tryz.func216) args
 .exact ad8 (hx _ _ Tryz.func217) args
 .exact ad7 (hx _ _ Tryz.func227) args
 .exact ad6 (hx _ _ Tryz.func228) args
 exact ad5 (hx _ _ Tryz.func229) args
end Go.Proofs.YtffladgmkiimjaaGreatDoor
namespace Go.Lag
def ob{α β:Type}{x:Option α}{f:α->Option β}{b:β}(h:(x >>= f)=some b):∃a,x=some a/\f a=some b:=by
 cases x with
 |none=>cases h
 |some a=>exact⟨a,rfl,h⟩
def vR{info:a7->Option TypeInfo}{fs:Array Field}{i:TypeInfo}(h:Made.reckonStruct info fs=some i):i.methods = #[]:=by
 unfold Made.reckonStruct at h;obtain⟨s,_,h⟩:=ob h;dsimp only at h;split at h<;>(cases h;rfl)
def EC{info:a7->Option TypeInfo}{d:TypeDesc}{i:TypeInfo}(h:Made.reckon info d=some i):i.methods = #[]:=by
 cases d with
 |pointer e=>
  simp only[Made.reckon] at h;obtain⟨j,_,h⟩:=ob h;split at h
  .cases h
  .split at h
   .cases h
   obtain⟨s,_,h⟩:=ob h;cases h;rfl
  obtain⟨s,_,h⟩:=ob h;cases h;rfl
 |slice e=>
  simp only[Made.reckon] at h;obtain⟨j,_,h⟩:=ob h;obtain⟨s,_,h⟩:=ob h;cases h;rfl
 |map k e=>
  simp only[Made.reckon] at h;obtain⟨j,_,h⟩:=ob h;obtain⟨s,_,h⟩:=ob h;obtain⟨j,_,h⟩:=ob h;obtain⟨s,_,h⟩:=ob h;cases h;rfl
 |chan dir e=>
  simp only[Made.reckon] at h;obtain⟨j,_,h⟩:=ob h;obtain⟨s,_,h⟩:=ob h;cases dir<;>(cases h;rfl)
 |func ps rs v=>
  simp only[Made.reckon] at h;obtain⟨j,_,h⟩:=ob h;cases h;rfl
 |array n e=>
  simp only[Made.reckon] at h;obtain⟨j,_,h⟩:=ob h;obtain⟨s,_,h⟩:=ob h;cases h;rfl
 |struct fs=>exact vR (by simpa only[Made.reckon] using h)
 |_=>cases h
def J0{T:Tables}{t:a7}{i:TypeInfo}(h:T.info? t=some i):T.types[t]?=some i\/i.methods = #[]:=by
 unfold Tables.info? at h;split at h
 .exact .inl h
 .right;generalize Made.depth=n at h;cases n with
  |zero=>cases h
  |succ n=>
   unfold Made.infoAt at h;split at h
   .contradiction
   .cases hd:Made.decode (t-T.types.size) with
    |none=>rw[hd] at h;cases h
    |some d=>rw[hd] at h;exact EC h
section
variable{P:aN}
theorem lO{α β:Type}{x:Sem α}{f:α->Sem β}{w w':ak}{b:β}(h:(x >>= f).run P w=.ok b w'):∃a w1,x.run P w=.ok a w1/\(f a).run P w1=.ok b w':=by
 have h1:=Sem.runT_fst P (x >>= f) w #[];rw[h] at h1;have e:(x >>= f).runT P w #[]=(x.bind f).runT P w #[]:=rfl;rw[e,Hx] at h1;have h2:=Sem.runT_fst P x w #[];generalize hx:x.runT P w #[]=r at h1 h2;obtain⟨r,es⟩:=r;cases r with
 |ok a w1=>
  refine⟨a,w1,h2.symm,?_⟩;have h3:=Sem.runT_fst P (f a) w1 es;rw[<-h3];exact h1
 |halt e w1=>cases h1
def Nx(P:aN)(bl:List Nat):Prop:=∀t i m,P.info? t=some i->m∈i.methods->(m.name = "Error"\/m.name = "String")->∀f b,m.func=some (f,b)->f∈bl
theorem CQ{bl:List Nat}(q:Nx P bl){name:String}(hn:name = "Error"\/name = "String"):∀(fuel:Nat) (t:a7) (v:aj) (w w':ak) (f:d_) (r:aj),(Go.method fuel t v name).run P w=.ok (f,r) w'->f∈bl
 |0,t,v,w,w',f,r,h=>by cases h
 |fuel+1,t,v,w,w',f,r,h=>by
  unfold Go.method at h;obtain⟨i,w1,h1,h⟩:=lO h
  have hi:P.info? t=some i:=by
   unfold typeInfo at h1;obtain⟨p,w2,h2,h1⟩:=lO h1
   have hp:p=P:=by
    have:(Go.program).run P w=.ok P w:=rfl;rw[this] at h2;cases h2;rfl
   subst hp;cases hh:p.info? t with
   |none=>rw[hh] at h1;cases h1
   |some j=>rw[hh] at h1;cases h1;rfl
  cases hm:i.methods.find? (·.name==name) with
  |none=>rw[hm] at h;cases h
  |some m=>
   rw[hm] at h;dsimp only at h;have hmem:m∈i.methods:=Array.mem_of_find?_eq_some hm;have hname:m.name=name:=by simpa using Array.find?_some hm
   obtain⟨⟨xt,x⟩,w2,h2,h⟩:=lO h;dsimp only at h;cases hf:m.func with
   |none=>
    rw[hf] at h;dsimp only at h;obtain⟨y,w3,h3,h⟩:=lO h;cases y<;>first|exact CQ q hn fuel _ _ _ _ _ _ h|(cases h)
   |some fb=>
    obtain⟨f0,b0⟩:=fb;rw[hf] at h;dsimp only at h;obtain⟨y,w3,h3,h⟩:=lO h;cases h;exact q t i m hi hmem (by rw[hname];exact hn) _ _ hf
theorem EJ{v:aj}{t:a7}{recv:aj}{name:String}(h:panicText P false v=.call t recv name):name = "Error"\/name = "String":=by
 unfold panicText at h;split at h
 .split at h
  .cases h
  rename_i t' v' info amf;simp only[bG,if_false] at h;split at h
  .rename_i m hm;injection h with _ _ h3
   have:=Array.find?_some hm;simp only[aJ,beq_iff_eq] at this;exact .inl (h3▸this.1)
  .rename_i m _ hm;injection h with _ _ h3
   have:=Array.find?_some hm;simp only[aJ,beq_iff_eq] at this;exact .inr (h3▸this.1)
  split at h
  .cases h
  split at h<;>first|(cases h;done)|(split at h<;>cases h)
 all_goals first|cases h|(split at h<;>cases h)
theorem LZ{bl:List Nat}(q:Nx P bl)(hb:∀f∈bl,∃fn,P.funcs[f]?=some fn/\fn.body=none/\(dr fn).isNone=true)(todo:List (aj × String)):NoEnter P todo:=by
 intro x _ t recv name hp w f args w' h;have hn:=EJ hp;rw[Sem.runT_fst] at h;have h':(callMethod (.iface t recv) name (#[Value.iface t recv].extract 1 #[Value.iface t recv].size)).run P w=.ok (.enter f args) w':=h;unfold callMethod at h';dsimp only at h';obtain⟨p,w1,h1,h'⟩:=lO h';obtain⟨⟨F,r⟩,w2,h2,h'⟩:=lO h';obtain⟨fn,hf,Z6,hx⟩:=hb F (CQ q hn _ _ _ _ _ _ _ h2);exact callFunc_not_enter hf Z6 hx _ _ _ _ _ h'
end
end Go.Lag
namespace Go.Proofs.YtffladgmkiimjaaGreatDoor
open Go.Lag
def P0(m:Method):Bool:=m.name == "Error" || m.name == "String"
def XL:Tryz.prog.types.all (fun i=>i.methods.all fun m=>!P0 m||match m.func with | some (f,_)=>bl.contains f | none=>true)=true:=kN
def aaD:bl.all (fun f=>(Tryz.prog.funcs[f]?.any fun fn=>fn.body.isNone&&(dr fn).isNone))=true:=kN
def XM:Tryz.prog.funcs.any (fun fn=>(fn.body.map readies).any fun l=>!l.isEmpty)=false:=kN
def quiet_of{P:aN}(e:P=aq):Quiet P:=by
 refine { body:=fun f fn c hf hc=>?_,ext:=fun f fn args hf hb=>adT (by rw[e]) f fn args hf hb,name:=fun f fn hf=>?_,ahead:=by rw[e];exact XO,steps:=fun g=>?_,enters:=fun todo=>?_ }
 .rw[e] at hf;have:=kn.1 T_ fn (fq hf);rw[hc] at this;exact this
 .rw[e] at hf;have:=kn.1 Qb fn (fq hf);simpa using this
 .unfold Program.stepOf;rw[Array.findIdx?_eq_none_iff];intro fn hfn;rw[e] at hfn;have:=Array.any_eq_false'.1 XM fn hfn;cases hb:fn.body with
  |none=>rfl
  |some c=>
   rw[hb] at this;simp only[dM,Option.any_some] at this ⊢;have h2:readies c=[]:=by simpa using this
   rw[h2];rfl
 refine LZ (bl:=bl) (fun t i m hi hm hn f b hf=>?_) (fun f hf=>?_) todo
 .rcases J0 hi with h|h
  .rw[e] at h;have h1:=kn.1 XL i (fq h);have h2:=kn.1 h1 m hm
   have h3:P0 m=true:=by
    rcases hn with h|h<;>simp[P0,h]
   rw[h3,hf] at h2;simpa using h2
  rw[h] at hm;simp at hm
 .have h1:=aX.1 aaD f hf;cases hx:Tryz.prog.funcs[f]? with
  |none=>rw[hx] at h1;cases h1
  |some fn=>
   rw[hx] at h1;simp only[Option.any_some,aJ,lz] at h1;exact⟨fn,by rw[e];exact hx,h1.1,by simp[h1.2]⟩
def quiet:Quiet Tryz.prog:=quiet_of rfl
def fw:Nat->Bool:=fun f=>[155,97,99,162,105,165,118,114,115,138,139,170,171,178].contains f
def ahV:[155,97,99,162,105,165,118,114,115,138,139,170,171,178].all (fun f=>(Tryz.prog.funcs[f]?.any fun fn=>fn.body.any fun c=>iL aq fw c))=true:=kN
def MJ{P:aN}(e:P=aq):vn P fw:=by
 refine⟨fun f hf=>?_⟩;have hm:f∈[155,97,99,162,105,165,118,114,115,138,139,170,171,178]:=by simpa [fw] using hf
 have h1:=aX.1 ahV f hm;cases hx:Tryz.prog.funcs[f]? with
 |none=>rw[hx] at h1;cases h1
 |some fn=>
  rw[hx] at h1;simp only[Option.any_some] at h1;cases hb:fn.body with
  |none=>rw[hb] at h1;cases h1
  |some c=>
   rw[hb] at h1;simp only[Option.any_some] at h1;refine⟨fn,c,by rw[e];exact hx,hb,by rw[e];exact h1,?_⟩;have:=kn.1 Qb fn (fq hx);simpa using this
end Go.Proofs.YtffladgmkiimjaaGreatDoor
namespace Go.Lag
open Go.Conc
open Classical in
noncomputable def shut (X:Nat->Prop) (w:ak):World:=
 { w with heap:=w.heap.mapIdx fun b o=>if X b then(match o with|.cells cs e z=>.cells cs e (0,max cs.size z.2)|_=>.coro none) else .coro none }
open Classical in
noncomputable def yG (X:Nat->Prop):Rn:=fun b=>if X b then some b else none
section
variable{F:Nat->Bool}{G:Nat}{X Y:Nat->Prop}{w:ak}
theorem qd{b c:Nat}:yG X b=some c↔X b/\c=b:=by
 unfold yG;split
 .rename_i h;simp[h,eq_comm]
 rename_i h;simp[h]
theorem v_{b:Nat}(h:X b):yG X b=some b:=qd.2 ⟨h,rfl⟩
theorem tO(h:∀b,X b->Y b):Rn.le (yG X) (yG Y):=fun b c hb=>by
 obtain⟨h1,h2⟩:=qd.1 hb;exact qd.2 ⟨h b h1,h2⟩
theorem wT:(shut X w).heap.size=w.heap.size:=by simp[shut]
theorem Ej{b:Nat}{cs:Array aj}{e:a7}{z:Nat × Nat}(h:w.heap[b]?=some (.cells cs e z))(hX:X b):(shut X w).heap[b]?=some (.cells cs e (0,max cs.size z.2)):=by
 simp[shut,Array.getElem?_mapIdx,h,hX]
theorem wU{a:cX}(hX:X a.block):(shut X w).cell? a=w.cell? a:=by
 unfold World.cell?;cases h:w.heap[a.block]? with
 |none=>
  have:(shut X w).heap[a.block]?=none:=by simp[shut,Array.getElem?_mapIdx,h]
  rw[this]
 |some o=>
  cases o with
  |cells cs e z=>rw[Ej h hX]
  |_=>
   have:(shut X w).heap[a.block]?=some (.coro none):=by simp[shut,Array.getElem?_mapIdx,h,hX]
   rw[this]
theorem P8:dI (shut X w):=by
 intro b o h;simp only[shut,Array.getElem?_mapIdx] at h;cases hb:w.heap[b]? with
 |none=>rw[hb] at h;cases h
 |some x=>
  rw[hb] at h;simp only[dM,ia] at h;subst h;split
  .cases x<;>first|exact .inl rfl|exact .inr rfl
  exact .inr rfl
def Closed(F:Nat->Bool)(X:Nat->Prop)(w:ak):Prop:=∀b,X b->∃cs e z,w.heap[b]?=some (.cells cs e z)/\∀v∈cs,VR F (yG X) v v
theorem Closed.lt(h:Closed F X w){b:Nat}(hb:X b):b<w.heap.size:=by
 obtain⟨cs,e,z,h1,_⟩:=h b hb;exact eR h1
theorem P7(h:Closed F X w)(hG:∀b,X b->G<=b):WR F G (fun b=>b<w.heap.size) (yG X) (shut X w) w:=by
 refine⟨fun a b c ha hb=>?_,fun b c hb=>?_,fun b hb=>by rw[wT];exact hb,fun b c hb=>?_,fun b o hb=>?_⟩
 .rw[<-(qd.1 ha).2,(qd.1 hb).2]
 .obtain⟨h1,rfl⟩:=qd.1 hb;exact⟨hG _ h1,hG _ h1⟩
 .obtain⟨h1,rfl⟩:=qd.1 hb;obtain⟨cs,e,z,h2,h3⟩:=h c h1;refine⟨_,_,Ej h2 h1,h2,.cells ⟨rfl,fun i x y hx hy=>?_⟩ (fun i h4 h5=>⟨gD _,by simp only;omega⟩),fun _=>⟨cs,e,_,rfl,oN⟩⟩;rw[hx] at hy;cases hy;exact h3 x (fq hx)
 .simp only[shut,Array.getElem?_mapIdx] at hb;cases hx:w.heap[b]? with
  |none=>rw[hx] at hb;cases hb
  |some x=>
   rw[hx] at hb;simp only[dM,ia] at hb;subst hb;split
   .cases x<;>rfl
   rfl
theorem Cn(h:Closed F X w)(c:Nat):X c↔∃b,b<w.heap.size/\yG X b=some c:=by
 constructor
 .intro hc;exact⟨c,h.lt hc,v_ hc⟩
 rintro⟨b,_,hb⟩;obtain⟨h1,rfl⟩:=qd.1 hb;exact h1
theorem Ii(h:Closed F X w):(yG X).owns (fun b=>b<w.heap.size)=fun _=>False:=by
 funext c
 refine propext ⟨fun⟨b,h1,h2⟩=>?_,fun h=>h.elim⟩;exact h1 (h.lt (qd.1 h2).1)
end
section
variable{P:aN}{main:Bool}{S O:Nat->Prop}{fn:d_}{tmps:Array aj}{kd:kh}{k:List Item}{cs:List b_}{w:ak}{aP:Array cO}
theorem EK(O:Nat->Prop)(w:ak):own O w w=O:=by
 funext c
 refine propext ⟨fun h=>h.elim id fun h=>absurd h.1 oN,.inl⟩
theorem Fv(S O:Nat->Prop)(w:ak){es:Array gO}(h:∀e∈es,TI (fun c=>S c\/O c) O e):KJ S O w w es:=
 ⟨aO _,fun _ _ _=>rfl,rfl,aO _,rfl,rfl,by rw[EK];exact h⟩
theorem ig.one{c0 c1:Nat}{p:aj}{b:Bool}{g:aH}(hr:g.status=.running)(hd:g.dying=none)
  (h:∀w1,iV (fun c=>S c\/O c) w w1->∃g' es,fE P false g w1=.go g' w1 es/\(∀e∈es,TI (fun c=>S c\/O c) O e)/\g'.status=.running/\g'.dying=none/\ig P c0 c1 S p b O g' w1):ig P c0 c1 S p b O g w:=by
 refine .step hr hd (fun w1 h1=>?_) fun w1 h1 g2 w2 es he=>?_
 .obtain⟨g',es,e,hev,h2,h3,_⟩:=h w1 h1;exact⟨g',w1,es,e,Fv S O w1 hev,h2,h3⟩
 obtain⟨g',es',e,_,_,_,h4⟩:=h w1 h1;rw[e] at he;injection he with e1 e2 e3
 subst e1;subst e2;rw[EK];exact h4
theorem ig.ctl{c0 c1:Nat}{p:aj}{b:Bool}{g g':aH}(hr:g.status=.running)(hd:g.dying=none)(h:∀w,fE P false g w=.go g' w #[])(hr':g'.status=.running)(NL:g'.dying=none)
  (hk:ig P c0 c1 S p b O g' w):ig P c0 c1 S p b O g w:=
 .one hr hd fun w1 h1=>⟨g',#[],h w1,sN,hr',NL,hk.rely _ _ _ h1⟩
theorem gV.one{c0 c1:Nat}{z0 z1:aj}{Fin:List aj->List aj->(Nat->Prop)->(Nat->Prop)->aH->ak->Prop}{f m:Nat}{acc out:List aj}{g:aH}(hr:g.status=.running)(hd:g.dying=none)
  (h:∀w1,iV (fun c=>S c\/O c) w w1->∃g' es,fE P true g w1=.go g' w1 es/\(∀e∈es,TI (fun c=>S c\/O c) O e)/\g'.status=.running/\g'.dying=none/\gV P c0 c1 z0 z1 Fin f m acc out S O g' w1):gV P c0 c1 z0 z1 Fin f m acc out S O g w:=by
 refine .step hr hd (fun w1 h1=>?_) fun w1 h1 g2 w2 es he=>?_
 .obtain⟨g',es,e,hev,h2,h3,_⟩:=h w1 h1;exact⟨g',w1,es,e,Fv S O w1 hev,h2,h3⟩
 obtain⟨g',es',e,_,_,_,h4⟩:=h w1 h1;rw[e] at he;injection he with e1 e2 e3
 subst e1;subst e2;rw[EK];exact h4
theorem gV.ctl{c0 c1:Nat}{z0 z1:aj}{Fin:List aj->List aj->(Nat->Prop)->(Nat->Prop)->aH->ak->Prop}{f m:Nat}{acc out:List aj}{g g':aH}(hr:g.status=.running)(hd:g.dying=none)(h:∀w,fE P true g w=.go g' w #[])(hr':g'.status=.running)(NL:g'.dying=none)
  (hk:gV P c0 c1 z0 z1 Fin f m acc out S O g' w):gV P c0 c1 z0 z1 Fin f m acc out S O g w:=
 .one hr hd fun w1 h1=>⟨g',#[],h w1,sN,hr',NL,hk.rely h1⟩
theorem Walk.keep{Stop:(Nat->Prop)->aH->ak->Prop}{O:Nat->Prop}{g:aH}{w:ak}(h:Walk P main S Stop O g w):∀w0:ak,(∀c,S c->c<w.heap.size/\¬O c/\w.heap[c]?=w0.heap[c]?)->
  Walk P main S (fun O g w'=>Stop O g w'/\∀c,S c->c<w'.heap.size/\¬O c/\w'.heap[c]?=w0.heap[c]?) O g w:=by
 induction h with
 |@stop O g w h=>
  intro w0 hk;refine .stop fun w1 hr=>⟨h w1 hr,fun c hc=>?_⟩
  obtain⟨h1,h2,h3⟩:=hk c hc;exact⟨bw h1 hr.grow,h2,(hr.keep c (.inl hc)).trans h3⟩
 |@step O g w a b c d ih=>
  intro w0 hk;refine .step a b c fun w1 hr g2 w2 es he=>ih w1 hr g2 w2 es he w0 fun x hx=>?_;obtain⟨h1,h2,h3⟩:=hk x hx;obtain⟨g3,w3,es3,he3,xX,_,_⟩:=c w1 hr;rw[he] at he3;injection he3 with e1 e2 e3
  subst e2;have hlt:x<w1.heap.size:=bw h1 hr.grow;refine⟨bw hlt xX.grow,fun ho=>ho.elim h2 fun hn=>by omega,?_⟩;rw[xX.keep x hlt h2,hr.keep x (.inl hx)];exact h3
theorem iu{w w':ak}{a:cX}(h:w'.heap[a.block]?=w.heap[a.block]?):w'.cell? a=w.cell? a:=by
 unfold World.cell?;rw[h]
abbrev GK(fn:d_)(tmps:Array aj)(k:List Item)(kd:kh)(cs:List b_):Goroutine:=G (jz fn tmps k .run kd) cs
theorem jS(a b:gZ)(w:ak):fE P main (GK fn tmps (.code (.seq a b)::k) kd cs) w=.go (GK fn tmps (.code a::.code b::k) kd cs) w #[]:=rfl
theorem qw(id:Nat)(c:gZ)(w:ak):fE P main (GK fn tmps (.code (.block id c)::k) kd cs) w=.go (GK fn tmps (.code c::.inBlock id::k) kd cs) w #[]:=rfl
theorem M5(c:gZ)(w:ak):fE P main (GK fn tmps (.code (.loop c)::k) kd cs) w=.go (GK fn tmps (.code c::.inLoop c::k) kd cs) w #[]:=rfl
theorem yQ(c:gZ)(w:ak):fE P main (GK fn tmps (.inLoop c::k) kd cs) w=.go (GK fn tmps (.code c::.inLoop c::k) kd cs) w #[]:=rfl
theorem o9(id:Nat)(w:ak):fE P main (GK fn tmps (.inBlock id::k) kd cs) w=.go (GK fn tmps k kd cs) w #[]:=rfl
theorem Ap(w:ak):fE P main (GK fn tmps (.code .skip::k) kd cs) w=.go (GK fn tmps k kd cs) w #[]:=rfl
theorem uB(id:Nat)(aP:Array cO)(w:ak):fE P main (GK fn tmps (.code (.region id aP false)::k) kd cs) w=.go (GK fn tmps (.inRegion aP (aS aP.size)::k) kd cs) w #[]:=rfl
theorem oJ(aP:Array cO)(w:ak):fE P main (GK fn tmps (.inRegion aP []::k) kd cs) w=.go (GK fn tmps k kd cs) w #[]:=rfl
theorem tW{c:bI}{a b:gZ}{x:Bool}(h:(jz fn tmps (.code (.cond c a b)::k) .run kd).eval c=.bool x)(w:ak):fE P main (GK fn tmps (.code (.cond c a b)::k) kd cs) w=.go (GK fn tmps (.code (if x then a else b)::k) kd cs) w #[]:=by
 have e:fE P main (GK fn tmps (.code (.cond c a b)::k) kd cs) w=(match (jz fn tmps (.code (.cond c a b)::k) .run kd).eval c with
     |.bool x=>.go (GK fn tmps (.code (if x then a else b)::k) kd cs) w
     |_=>.ended (.stuck "cond: bool expected" ((jz fn tmps (.code (.cond c a b)::k) .run kd).pos P)) w):=rfl
 rw[e,h]
theorem FK{id:Nat}{k':List Item}(h:exitTo id k=some k')(w:ak):fE P main (GK fn tmps (.code (.exit id)::k) kd cs) w=.go (GK fn tmps k' kd cs) w #[]:=by
 show(exitTo id k).elim _ _=_;rw[h];rfl
theorem P2{i:Nat}{rest:List Nat}{o:cO}(Ds:kd≠.early)(ho:aP[i]?=some o)(hg:o.guard=none){v:aj}{w w2:ak}{es:Array gO}
  (h:(bY (jz fn tmps (.inRegion aP (i::rest)::k) .run kd).eval o).runT P w #[]=(.ok (.value v) w2,es)) :
  fE P main (GK fn tmps (.inRegion aP (i::rest)::k) kd cs) w=.go (GK fn (match o.dst with|some d=>tmps.setIfInBounds d v|none=>tmps) (.inRegion aP rest::k) kd cs) w2 (seen P fn es):=by
 have hw:((aP[i]?).map (cU · (yielded aP tmps))).getD false=true:=by rw[ho];simp[cU,hg]
 have YA:(kd == .early)=false:=beq_eq_false_iff_ne.2 Ds;have e1:fE P main (GK fn tmps (.inRegion aP (i::rest)::k) kd cs) w=fB P true (jz fn tmps (.inRegion aP (i::rest)::k) .run kd) cs none w:=if_pos hw
 have e2:fB P true (jz fn tmps (.inRegion aP (i::rest)::k) .run kd) cs none w=eC P true (jz fn tmps (.inRegion aP (i::rest)::k) .run kd) cs none (bY (jz fn tmps (.inRegion aP (i::rest)::k) .run kd).eval o) w:=by
  unfold fB;have:(jz fn tmps (.inRegion aP (i::rest)::k) .run kd).oper?=some o:=ho;rw[this];rfl
 rw[e1,e2];unfold eC;simp only[if_true,h];simp only[jz,YA,bG,if_false,GStep.after,en,Frame.finish,ho,gW];rfl
def w8(P:aN)(t:a7):Bool:=match P.underlying t with|some (.struct _)|some (.array ..)|none=>false|_=>true
theorem Ru{t:a7}(ht:w8 P t=true){a:cX}{v:aj}{w:ak}(hc:w.cell? a=some v)(es:Array gO):(nV t (.pointer (some a))).runT P w es=(.ok v w,es.push ⟨.cell a,false,false⟩):=by
 have h1:∃d,P.underlying t=some d/\(∀fs,d≠.struct fs)/\∀n e,d≠.array n e:=by
  unfold w8 at ht;cases hd:P.underlying t with
  |none=>rw[hd] at ht;cases ht
  |some d=>rw[hd] at ht;exact⟨d,rfl,(fun fs e=>by subst e;cases ht),(fun n e' e=>by subst e;cases ht)⟩
 obtain⟨d,hd,h2,h3⟩:=h1
 have h4:(isAgg t).runT P w es=(.ok false w,es):=by
  show(((Sem.program fun p=>Sem.pure p).bind fun p=>(match p.underlying t with|some d=>(eZ d:Sem TypeDesc)|none=>stuck "no such type")).bind fun d=>(match d with|.struct _|.array _ _=>(eZ true:Sem Bool)|_=>eZ false)).runT P w es=_;simp only[Sem.bind,Sem.runT,hd];cases d<;>first|rfl|exact absurd rfl (h2 _)|exact absurd rfl (h3 _ _)
 show((loadVar t a)).runT P w es=_;unfold loadVar;show((isAgg t).bind _).runT P w es=_;rw[Hx,h4];simp only[bG,if_false];show(Sem.load .plain a .pure).runT P w es=_;simp only[Sem.runT,hc];rfl
theorem A8{i:Nat}{rest:List Nat}{o:cO}{d:Tmp}{t:a7}{x:bI}(Ds:kd≠.early)(ho:aP[i]?=some o)(hop:o.op=.load t x)(hd:o.dst=some d)(hg:o.guard=none)(ht:w8 P t=true){a:cX}
  (hx:(jz fn tmps (.inRegion aP (i::rest)::k) .run kd).eval x=.pointer (some a)) {v:aj} {w:ak} (hc:w.cell? a=some v) :
  fE P main (GK fn tmps (.inRegion aP (i::rest)::k) kd cs) w=.go (GK fn (tmps.setIfInBounds d v) (.inRegion aP rest::k) kd cs) w (seen P fn #[⟨.cell a,false,false⟩]):=by
 obtain⟨dst,op,type,pos,after,guard⟩:=o;dsimp only at hop hd hg;subst hop;subst hd;subst hg;refine P2 Ds ho rfl ?_;show((nV t ((jz fn tmps (.inRegion aP (i::rest)::k) .run kd).eval x)).bind fun v=>eZ (Next.value v)).runT P w #[]=_;rw[hx,Hx,Ru ht hc];rfl
theorem FB{a:cX}(hS:S a.block)(fn:d_):∀e∈seen P fn #[⟨.cell a,false,false⟩],TI (fun c=>S c\/O c) O e:=fun e he=>by
 have:=mem_seen he;simp only[fe,kg] at this;subst this;exact .inl ⟨a,rfl,rfl,.inl hS,sN⟩
theorem Ig{i:Nat}{rest:List Nat}{o:cO}{x y:bI}(Ds:kd≠.early)(ho:aP[i]?=some o)(hop:o.op=.send x y)(hg:o.guard=none){c:Nat}{v:aj}
  (hx:(jz fn tmps (.inRegion aP (i::rest)::k) .run kd).eval x=.chan (some c)) (hy:(jz fn tmps (.inRegion aP (i::rest)::k) .run kd).eval y=v):AtSend P c v (GK fn tmps (.inRegion aP (i::rest)::k) kd cs):=by
 refine⟨rfl,rfl,rfl,fun w=>?_⟩;have hw:((aP[i]?).map (cU · (yielded aP tmps))).getD false=true:=by rw[ho];simp[cU,hg]
 have YA:(kd == .early)=false:=beq_eq_false_iff_ne.2 Ds;have e1:fE P false (GK fn tmps (.inRegion aP (i::rest)::k) kd cs) w=fB P true (jz fn tmps (.inRegion aP (i::rest)::k) .run kd) cs none w:=if_pos hw;rw[e1]
 have e2:bY (jz fn tmps (.inRegion aP (i::rest)::k) .run kd).eval o=eZ (Next.comm #[nT c v zS] true .send):=by
  unfold bY;rw[hop];simp only[hx,hy];rfl
 have e3:fB P true (jz fn tmps (.inRegion aP (i::rest)::k) .run kd) cs none w=eC P true (jz fn tmps (.inRegion aP (i::rest)::k) .run kd) cs none (bY (jz fn tmps (.inRegion aP (i::rest)::k) .run kd).eval o) w:=by
  unfold fB;have:(jz fn tmps (.inRegion aP (i::rest)::k) .run kd).oper?=some o:=ho;rw[this];rfl
 rw[e3,e2];unfold eC;simp only[if_true,jz,YA,bG,if_false];rfl
theorem Cp{i:Nat}{rest:List Nat}{o:cO}(ho:aP[i]?=some o)(hd:o.dst=none):fF (GK fn tmps (.inRegion aP (i::rest)::k) kd cs) aw=GK fn tmps (.inRegion aP rest::k) kd cs:=by
 simp only[fF,GK,G,jz,Frame.finish,ho,hd,gW]
def xi(P:aN)(f:d_)(captured:Array aj):Goroutine:=
 { frame:={ (default:b_) with fn:=P.funcs.size,defers:=[{ target:=.fn (.func f) captured,args:=#[] }],mode:=.panicking [goexitEntry] },callers:=[],status:=.running,dying:=none }
def m7(P:aN):Frame:={ (default:b_) with fn:=P.funcs.size,defers:=[],mode:=.panicking [goexitEntry] }
theorem N0{f:d_}{func:Func}{c:gZ}(hf:P.funcs[f]?=some func)(hb:func.body=some c)(hn:(func.name == "runtime.NumGoroutine")=false)(captured:Array aj)(w:ak) :
  fE P false (xi P f captured) w=.go (GK f (captured++bF (func.ntmps-captured.size) aw) [.code c] .deferred [m7 P]) w #[]:=by
 have h1:(invoke (.fn (.func f) captured) #[]).runT P w #[]=(.ok (.enter f captured) w,#[]):=by
  show(fT f (#[]++captured)).runT P w #[]=_;unfold fT;show((Sem.program .pure).bind _).runT P w #[]=_;simp only[Sem.bind,Sem.runT];rw[hf];have h4:func.body.isNone=false:=by rw[hb];rfl
  simp only[hn,h4,bG,if_false,Array.empty_append];rfl
 show mg P false (xi P f captured).frame [] none w=_;unfold mg;dsimp only[xi];unfold callDeferred;simp only[h1];simp only[Bool.false_and,bG,if_false,Frame.enter,hf,dM,Option.getD_some,gW,hb];rfl
theorem RD{f:d_}{func:Func}(hf:P.funcs[f]?=some func)(hr:func.results = #[]):QuitsD P 5 0 (GK f tmps [.inRegion aP []] .deferred [m7 P]):=by
 have hd:deafBehind 0 #[]=0:=rfl;refine .inr ⟨rfl,GK f tmps [] .deferred [m7 P],#[],sN,fun w=>rfl,?_⟩;refine .inr ⟨rfl,G (jz f tmps [] .returning .deferred) [m7 P],#[],sN,fun w=>rfl,?_⟩;refine .inr ⟨rfl,G (m7 P) [],#[],sN,fun w=>?_,?_⟩
 .show mg P false (jz f tmps [] .returning .deferred) [m7 P] none w=_;unfold mg
  have h1:(results func tmps).runT P w #[]=(.ok (.tuple #[]) w,#[]):=by
   unfold results;rw[hr,pH];rfl
  simp only[jz,hf,h1];rfl
 refine .inr ⟨rfl,{ frame:=m7 P,callers:=[],status:=.finished,dying:=none },#[],sN,fun w=>?_,?_⟩
 .show mg P false (m7 P) [] none w=_;unfold mg;have h2:P.funcs[P.funcs.size]?=none:=Array.getElem?_eq_none (aO _);have h3:(default:b_).todo=[]:=rfl;simp[m7,Frame.catches,h2,h3,goexitEntry]
 exact .inl ⟨rfl,rfl⟩
end
end Go.Lag
namespace Go.Proofs.YtffladgmkiimjaaGreatDoor
open Go.Lag
open Go.Conc
noncomputable def w0:Code:=match Tryz.f178.body with|some (.seq (.seq a _) _)=>a|_=>.skip
noncomputable def w1:Code:=match Tryz.f178.body with|some (.seq (.seq _ (.cond _ a _)) _)=>a|_=>.skip
noncomputable def w2:Code:=match Tryz.f178.body with|some (.seq _ a)=>a|_=>.skip
def opsOf:gZ->Array cO|.region _ aP _=>aP|_=>#[]
def Y9:Tryz.f178.body=some (.seq (.seq w0 (.cond (.tmp 6) w1 .skip)) w2):=kN
def adG:w1=.region 1 (opsOf w1) false:=kN
def adF:w2=.region 2 (opsOf w2) false:=kN
def adH:iL aq fw w0=true:=kN
def aax:eb w0=true:=kN
def aaL:w8 aq 188=true:=kN
def aaK:w8 aq 189=true:=kN
def aaM:w8 aq 108=true:=kN
def Xy:(opsOf w1).size=3:=kN
def Xw:(opsOf w2).size=2:=kN
def XA:(opsOf w1)[0]?=some ((opsOf w1).getD 0 default)/\((opsOf w1).getD 0 default).op=.load 188 (.tmp 2)/\((opsOf w1).getD 0 default).dst=some 7/\((opsOf w1).getD 0 default).guard=none:=⟨kN,kN,kN,kN⟩
def Xz:(opsOf w1)[1]?=some ((opsOf w1).getD 1 default)/\((opsOf w1).getD 1 default).op=.load 108 (.tmp 1)/\((opsOf w1).getD 1 default).dst=some 8/\((opsOf w1).getD 1 default).guard=none:=⟨kN,kN,kN,kN⟩
def TN:(opsOf w1)[2]?=some ((opsOf w1).getD 2 default)/\((opsOf w1).getD 2 default).op=.send (.tmp 7) (.tmp 8)/\((opsOf w1).getD 2 default).dst=none/\((opsOf w1).getD 2 default).guard=none:=⟨kN,kN,kN,kN⟩
def Xx:(opsOf w2)[0]?=some ((opsOf w2).getD 0 default)/\((opsOf w2).getD 0 default).op=.load 189 (.tmp 3)/\((opsOf w2).getD 0 default).dst=some 9/\((opsOf w2).getD 0 default).guard=none:=⟨kN,kN,kN,kN⟩
def TM:(opsOf w2)[1]?=some ((opsOf w2).getD 1 default)/\((opsOf w2).getD 1 default).op=.send (.tmp 9) (.const (.bool true))/\((opsOf w2).getD 1 default).dst=none/\((opsOf w2).getD 1 default).guard=none:=⟨kN,kN,kN,kN⟩
def aaA:Tryz.f178.results = #[]:=kN
def ad2:Tryz.f178.ntmps=10:=kN
def ad4:(Tryz.f178.name == "runtime.NumGoroutine")=false:=kN
abbrev ptr(a:cX):Value:=.pointer (some a)
def KY(xa pa fa ta:cX):Array Value:=#[ptr xa,ptr pa,ptr fa,ptr ta]++bF 6 aw
section
variable{P:aN}{X:Nat->Prop}{w:ak}{xa pa fa ta:cX}{c0 c1:Nat}{p:aj}{s:Bool}{tmps:Array aj}{O:Nat->Prop}
structure WT(tmps:Array aj)(pa fa ta:cX)(s:Bool):Prop where
 size:tmps.size=10
 p:tmps[1]?=some (ptr pa)
 f:tmps[2]?=some (ptr fa)
 t:tmps[3]?=some (ptr ta)
 s:tmps[6]?=some (.bool s)
theorem bD{i:Nat}{v:aj}(h:tmps[i]?=some v):tmps.getD i aw=v:=by
 rw[Array.getD_eq_getD_getElem?,h];rfl
theorem Cl(e:P=aq)(hf:P.funcs[(178:Nat)]?=some Tryz.f178)(Tv:X ta.block)(ht:w.cell? ta=some (.chan (some c1)))(hs:tmps.size=10)(h3:tmps[3]?=some (ptr ta)) :
  ig P c0 c1 X p false O (GK 178 tmps [.code w2] .deferred [m7 P]) w:=by
 have Ds:CallKind.deferred≠.early:=sN;rw[adF];refine .ctl rfl rfl (uB _ _) rfl rfl ?_;rw[Xw];show ig P c0 c1 X p false O (GK 178 tmps [.inRegion (opsOf w2) [0,1]] .deferred [m7 P]) w;refine .one rfl rfl fun w' hr=>?_;have ht':w'.cell? ta=some (.chan (some c1)):=(iu (hr.keep _ (.inl Tv))).trans ht;refine⟨_,_,A8 Ds Xx.1 Xx.2.1 Xx.2.2.1 Xx.2.2.2 (by rw[e];exact aaK) (a:=ta) (bD h3) ht',FB Tv _,rfl,rfl,?_⟩;have h9:(tmps.setIfInBounds 9 (.chan (some c1)))[9]?=some (.chan (some c1)):=bn oN;refine .Cq (n:=5) (Ig Ds TM.1 TM.2.1 TM.2.2.2 (c:=c1) (v:=.bool true) (bD h9) rfl) ?_;rw[Cp TM.1 TM.2.2.1];exact RD hf aaA
theorem K_(e:P=aq)(hf:P.funcs[(178:Nat)]?=some Tryz.f178)(ZP:X pa.block)(hfa:X fa.block)(Tv:X ta.block)(hp:w.cell? pa=some p)(hfc:w.cell? fa=some (.chan (some c0)))(ht:w.cell? ta=some (.chan (some c1)))(h:WT tmps pa fa ta s) :
  ig P c0 c1 X p s O (GK 178 tmps [.code (.cond (.tmp 6) w1 .skip),.code w2] .deferred [m7 P]) w:=by
 have Ds:CallKind.deferred≠.early:=sN;refine .ctl rfl rfl (tW (x:=s) (bD h.s)) rfl rfl ?_;cases s with
 |false=>
  refine .ctl rfl rfl (fun w=>Ap w) rfl rfl ?_;exact Cl e hf Tv ht h.size h.t
 |true=>
  show ig P c0 c1 X p true O (GK 178 tmps [.code w1,.code w2] .deferred [m7 P]) w;rw[adG];refine .ctl rfl rfl (uB _ _) rfl rfl ?_;rw[Xy];show ig P c0 c1 X p true O (GK 178 tmps [.inRegion (opsOf w1) [0,1,2],.code w2] .deferred [m7 P]) w;refine .one rfl rfl fun w' hr=>?_;have ajg:w'.cell? fa=some (.chan (some c0)):=(iu (hr.keep _ (.inl hfa))).trans hfc;have hp':w'.cell? pa=some p:=(iu (hr.keep _ (.inl ZP))).trans hp;have ht':w'.cell? ta=some (.chan (some c1)):=(iu (hr.keep _ (.inl Tv))).trans ht;refine⟨_,_,A8 Ds XA.1 XA.2.1 XA.2.2.1 XA.2.2.2 (by rw[e];exact aaL) (a:=fa) (bD h.f) ajg,FB hfa _,rfl,rfl,?_⟩;refine .one rfl rfl fun w'' hr'=>?_;have aiC:w''.cell? pa=some p:=(iu (hr'.keep _ (.inl ZP))).trans hp';have aio:w''.cell? ta=some (.chan (some c1)):=(iu (hr'.keep _ (.inl Tv))).trans ht';have hsz:=h.size;have h1':(tmps.setIfInBounds 7 (.chan (some c0)))[1]?=some (ptr pa):=by rw[aG oN];exact h.p
  refine⟨_,_,A8 Ds Xz.1 Xz.2.1 Xz.2.2.1 Xz.2.2.2 (by rw[e];exact aaM) (a:=pa) (bD h1') aiC,FB ZP _,rfl,rfl,?_⟩
  have h7:((tmps.setIfInBounds 7 (.chan (some c0))).setIfInBounds 8 p)[7]?=some (.chan (some c0)):=by
   rw[aG oN];exact bn oN
  have h8:((tmps.setIfInBounds 7 (.chan (some c0))).setIfInBounds 8 p)[8]?=some p:=bn sP;refine .Cr (Ig Ds TN.1 TN.2.1 TN.2.2.2 (c:=c0) (v:=p) (bD h7) (bD h8)) ?_;rw[Cp TN.1 TN.2.2.1];refine .ctl rfl rfl (oJ _) rfl rfl ?_;refine Cl (tmps:=(tmps.setIfInBounds 7 (.chan (some c0))).setIfInBounds 8 p) e hf Tv aio sP ?_;rw[aG oN,aG oN];exact h.t
theorem worker(e:P=aq)(hf:P.funcs[(178:Nat)]?=some Tryz.f178)(hcl:Closed fw X w)(hX:∀b,X b->P.globals.size<=b)(CY:P.globals.size<=w.heap.size)(hin:P.inits.idxOf? 178=none)
  (xV:X xa.block) (ZP:X pa.block) (hfa:X fa.block) (Tv:X ta.block) (hp:w.cell? pa=some p) (hfc:w.cell? fa=some (.chan (some c0))) (ht:w.cell? ta=some (.chan (some c1)))
  (h0:∀I d,w0.wp P (fun e a W'=>e=.normal/\WT a.tmps pa fa ta s) ⟨KY xa pa fa ta,[]⟩ (dH (shut X w) I d)) :
  ig P c0 c1 X p s (fun _=>False) (xi P 178 #[ptr xa,ptr pa,ptr fa,ptr ta]) w:=by
 have hq:Quiet P:=quiet_of e;have Sr:vn P fw:=MJ e;refine .ctl rfl rfl (N0 hf Y9 ad4 _) rfl rfl ?_;rw[ad2];refine .ctl rfl rfl (jS _ _) rfl rfl (.ctl rfl rfl (jS _ _) rfl rfl ?_);have hwr:WR fw P.globals.size (fun b=>b<w.heap.size) (yG X) (shut X w) w:=P7 hcl hX;have Tw:∀a:cX,X a.block->VR fw (yG X) (ptr a) (ptr a):=fun a ha=>.ptr ⟨v_ ha,rfl,rfl⟩
 have Tz:iZ fw (yG X) (KY xa pa fa ta) (KY xa pa fa ta):=by
  refine iZ.append ?_ (.replicate uj 6);exact(((iZ.one (Tw xa xV)).push (Tw pa ZP)).push (Tw fa hfa)).push (Tw ta Tv)
 have ZF:=Ec (main:=false) (B:=fun b=>b<w.heap.size) hq Sr (by rw[wT];exact CY) (fn:=178) (kd:=.deferred) sN hin (c:=w0) (by rw[e];exact adH) aax Tz hwr CY P8 (Q:=fun a _=>WT a.tmps pa fa ta s) (fun _ _ _ _ h=>h) h0 (S:=X) (Cn hcl) [.code (.cond (.tmp 6) w1 .skip),.code w2] [m7 P];rw[Ii hcl] at ZF;have mr:=ZF.keep w fun c hc=>⟨hcl.lt hc,id,rfl⟩
 refine ig.JK P c0 c1 mr ?_;rintro O g w' ⟨⟨nX,lx,kW,ρ1,rfl,Vn,hQ,hkn⟩,hk⟩
 have same:∀ {i:Nat} {a:cX},X a.block->nX[i]?=some (ptr a)->lx[i]?=some (ptr a):=by
  intro i a ha hi;obtain⟨y,hy,hv⟩:=Vn.get hi;cases hv with
  |@ptr _ a' Gt=>
   have h1:=hkn.le _ _ (v_ ha);have h2:=Gt.block;rw[h1] at h2;have h3:=bp h2;have h4:=Gt.off;have h5:=Gt.spot;obtain⟨b1,o1,s1⟩:=a;obtain⟨b2,o2,s2⟩:=a';dsimp only at h3 h4 h5;subst h3;subst h4;subst h5;exact hy
 have hs6:lx[6]?=some (.bool s):=by
  obtain⟨y,hy,hv⟩:=Vn.get hQ.s;cases hv;exact hy
 have hc:∀ {a:cX},X a.block->w'.cell? a=w.cell? a:=fun ha=>iu (hk _ ha).2.2;exact K_ e hf ZP hfa Tv ((hc ZP).trans hp) ((hc hfa).trans hfc) ((hc Tv).trans ht) ⟨Vn.size▸hQ.size,same ZP hQ.p,same hfa hQ.f,same Tv hQ.t,hs6⟩
end
open Go.RowKit
def adD(b:BB)(hb:b.Ok)(bq aM aC v:aj)(l:List dS)(hl:∀a∈l,a.Ok)(p:Nat)(hp:p<512)(xb pb fb tb:Nat)(w:ak)(hv:Reads w v l.length (rowOf l))
  (hx:∀i u,(b.open bq aM aC v)[i]?=some u->w.cell? ⟨xb,i,none⟩=some u) (hpc:w.cell? ⟨pb,0,none⟩=some (ag af p)) :
  w0.wp aq (fun e a W'=>e=.normal/\WT a.tmps ⟨pb,0,none⟩ ⟨fb,0,none⟩ ⟨tb,0,none⟩ (b.sure l p)) ⟨KY ⟨xb,0,none⟩ ⟨pb,0,none⟩ ⟨fb,0,none⟩ ⟨tb,0,none⟩,[]⟩ w:=by
 have x0:=hx 0 _ rfl;have x1:=hx 1 _ rfl;have x2:=hx 2 _ rfl;have x3:=hx 3 _ rfl;have x4:=hx 4 _ rfl;have x5:=hx 5 _ rfl;have x6:=hx 6 _ rfl;have x7:=hx 7 _ rfl;have x8:=hx 8 _ rfl;have x9:=hx 9 _ rfl;have qD:=hx 10 _ rfl;have qC:=hx 11 _ rfl;have rH:=hx 12 _ rfl;have rz:=hx 13 _ rfl;have rB:=hx 14 _ rfl;have x15:=hx 15 _ rfl;clear hx;have hS:=yo b hb bq aM aC v l hl p hp w hv;unfold w0 KY;simp only[Tryz.f178]
 go_wp2_with (go_at_call 105;refine hS.mono ?_;rintro e w2 ⟨rfl,hb2⟩)
 exact⟨rfl,rfl,rfl,rfl,rfl⟩
def sL:gZ->gZ|.seq a _=>a|_=>.skip
def sR:gZ->gZ|.seq _ b=>b|_=>.skip
def bC:gZ->gZ|.block _ c=>c|_=>.skip
def lC:gZ->gZ|.loop c=>c|_=>.skip
def cT:gZ->gZ|.cond _ a _=>a|_=>.skip
def cE:gZ->gZ|.cond _ _ b=>b|_=>.skip
noncomputable def rC:Code:=match Tryz.f159.body with|some c=>c|_=>.skip
noncomputable def gR0:Code:=sL rC
noncomputable def gR1:Code:=sL (sR rC)
noncomputable def gR2:Code:=sL (sR (sR rC))
noncomputable def gR3:Code:=sL (sR (sR (sR rC)))
noncomputable def gM:Code:=sL (sR (sR (sR (sR rC))))
noncomputable def gN:Code:=sR (sR (sR (sR (sR rC))))
noncomputable def gR4:Code:=sL gM
noncomputable def Kh:Code:=lC (bC (sR gM))
noncomputable def gR5:Code:=sL Kh
noncomputable def Pa:Code:=bC (sL (sR (sR Kh)))
noncomputable def gR6:Code:=sL Pa
noncomputable def gR7:Code:=sL (sR Pa)
noncomputable def gR8:Code:=sL (sL (sR (sR Pa)))
noncomputable def gR9:Code:=sL (sR (sR (sR Pa)))
noncomputable def vv:Code:=sR (sR (sR (sR Pa)))
noncomputable def MH:Code:=sR (sR (sR Kh))
noncomputable def Hd:Code:=sL gN
noncomputable def NP:Code:=lC (bC (sL (sR gN)))
noncomputable def SJ:Code:=sL (sL NP)
noncomputable def Vy:Code:=bC (sR NP)
noncomputable def Bx:Code:=sL Vy
noncomputable def nR:Code:=sL (sR Vy)
noncomputable def Vx:Code:=bC (sR (sR Vy))
noncomputable def Bv:Code:=cT Vx
noncomputable def SI:Code:=cT (cE Vx)
noncomputable def xD:Code:=sR (sR gN)
def Y_:Tryz.f159.body=some (.seq gR0 (.seq gR1 (.seq gR2 (.seq gR3 (.seq (.seq gR4 (.block 0 (.loop Kh))) (.seq Hd (.seq (.block 2 (.loop NP)) xD))))))):=kQ
def acd:Kh=.seq gR5 (.seq (.cond (.tmp 19) .skip (.exit 0)) (.seq (.block 1 Pa) MH)):=kQ
def acg:Pa=.seq gR6 (.seq gR7 (.seq (.seq gR8 (.cond (.tmp 50) (.exit 1) .skip)) (.seq gR9 vv))):=kQ
def acb:NP=.seq (.seq SJ (.cond (.tmp 56) .skip (.exit 2))) (.block 3 Vy):=kQ
def acf:Vy=.seq Bx (.seq nR (.block 4 Vx)):=kQ
def ace:Vx=.cond (.tmp 61) Bv (.cond (.tmp 62) SI .skip):=kQ
def YP:vv=.region 10 (opsOf vv) false:=kQ
def YO:nR=.region 16 (opsOf nR) false:=kQ
def ah4:[gR5,gR6,gR7,gR8,gR9,MH,Hd,SJ,Bx,Bv,SI].all (fun c=>iL aq fw c&&eb c)=true:=kQ
def agv(a:Array aj):a=((aS a.size).map fun i=>a.getD i aw).toArray:=by
 apply Array.ext
 .simp
 intro i h1 h2;simp[Array.getD,h1]
def ve(a:Array aj)(h:a.size=71):a=((aS 71).map fun i=>a.getD i aw).toArray:=by
 have:=agv a;rw[h] at this;exact this
structure GT(xb fb tb:Nat)(sn:Nat)(tmps:Array aj)(many m:Int)(t8:aj):Prop where
 size:tmps.size=71
 t1:tmps[1]?=some (ptr ⟨xb,0,none⟩)
 t3:tmps[3]?=some (ag af sn)
 t4:tmps[4]?=some (ptr ⟨fb,0,none⟩)
 t5:tmps[5]?=some (ptr ⟨tb,0,none⟩)
 t6:tmps[6]?=some (ag af many)
 t18:tmps[18]?=some (ag af m)
 t8:tmps[8]?=some t8
section
variable{xb fb tb sn:Nat}{tmps:Array aj}{many m:Int}{t8:aj}{lw:ak}
theorem pR5(h:GT xb fb tb sn tmps many m t8):gR5.wp aq (fun e a W'=>e=.normal/\GT xb fb tb sn a.tmps many m t8/\a.tmps[19]?=some (.bool (decide (m<512)))/\W'=lw) ⟨tmps,[]⟩ lw:=by
 have e1:=bD h.t1;have e3:=bD h.t3;have e4:=bD h.t4;have e5:=bD h.t5;have e6:=bD h.t6;have Gu:=bD h.t18;have e8:=bD h.t8;rw[ve tmps h.size];simp only[aS,cA,cV,fg,e1,e3,e4,e5,e6,Gu,e8];clear e1 e3 e4 e5 e6 Gu e8;simp only[gR5,Kh,Pa,gM,gN,rC,ld,sL,sR,bC,lC];go_wp2;exact⟨rfl,rfl,rfl,rfl,rfl,rfl,rfl,rfl⟩
theorem pR6(h:GT xb fb tb sn tmps many m t8):gR6.wp aq (fun e a W'=>e=.normal/\GT xb fb tb sn a.tmps many m t8/\a.tmps[7]?=some (ag af m)/\W'=lw) ⟨tmps,[]⟩ lw:=by
 have e1:=bD h.t1;have e3:=bD h.t3;have e4:=bD h.t4;have e5:=bD h.t5;have e6:=bD h.t6;have Gu:=bD h.t18;have e8:=bD h.t8;rw[ve tmps h.size];simp only[aS,cA,cV,fg,e1,e3,e4,e5,e6,Gu,e8];clear e1 e3 e4 e5 e6 Gu e8;simp only[gR6,Kh,Pa,gM,gN,rC,ld,sL,sR,bC,lC];go_wp2;exact⟨rfl,rfl,rfl,rfl,rfl,rfl,rfl,rfl⟩
def Q7(xb fb tb sn:Nat)(many:Int)(m:Nat)(lw:ak)(a:Act)(W':ak):Prop:=
 GT xb fb tb sn a.tmps many m (ptr ⟨lw.heap.size,0,none⟩)/\a.tmps[7]?=some (ag af m)/\W'.heap[lw.heap.size]?=some (.cells #[ag af ((sn ||| m:Nat):Int)] 108 (0,0))/\Bw lw W'
theorem pR7{m:Nat}(hs:sn<512)(hm:m<512)(h:GT xb fb tb sn tmps many m t8)(h7:tmps[7]?=some (ag af m)):gR7.wp aq (fun e a W'=>e=.normal/\Q7 xb fb tb sn many m lw a W') ⟨tmps,[]⟩ lw:=by
 have h64:=adZ sn m oM oM;have e1:=bD h.t1;have e3:=bD h.t3;have e4:=bD h.t4;have e5:=bD h.t5;have e6:=bD h.t6;have Gu:=bD h.t18;have e8:=bD h.t8;have e7:=bD h7;rw[ve tmps h.size];simp only[aS,cA,cV,fg,e1,e3,e4,e5,e6,Gu,e8,e7];clear e1 e3 e4 e5 e6 Gu e8 e7;simp only[gR7,Kh,Pa,gM,gN,rC,ld,sL,sR,bC,lC];go_wp2;exact⟨⟨rfl,rfl,rfl,rfl,rfl,rfl,rfl,rfl⟩,rfl,World.alloc_heap_new _ _,dx⟩
theorem pR9(hm:0<=many/\many<=1000)(h:GT xb fb tb sn tmps many m t8):gR9.wp aq (fun e a W'=>e=.normal/\GT xb fb tb sn a.tmps (many+1) m t8/\W'=lw) ⟨tmps,[]⟩ lw:=by
 have e1:=bD h.t1;have e3:=bD h.t3;have e4:=bD h.t4;have e5:=bD h.t5;have e6:=bD h.t6;have Gu:=bD h.t18;have e8:=bD h.t8;rw[ve tmps h.size];simp only[aS,cA,cV,fg,e1,e3,e4,e5,e6,Gu,e8];clear e1 e3 e4 e5 e6 Gu e8;simp only[gR9,Kh,Pa,gM,gN,rC,ld,sL,sR,bC,lC];go_wp2;exact⟨rfl,rfl,rfl,rfl,rfl,rfl,rfl,rfl⟩
theorem ahZ(hm:0<=m/\m<=1000)(h:GT xb fb tb sn tmps many m t8):MH.wp aq (fun e a W'=>e=.normal/\GT xb fb tb sn a.tmps many (m+1) t8/\W'=lw) ⟨tmps,[]⟩ lw:=by
 have e1:=bD h.t1;have e3:=bD h.t3;have e4:=bD h.t4;have e5:=bD h.t5;have e6:=bD h.t6;have Gu:=bD h.t18;have e8:=bD h.t8;rw[ve tmps h.size];simp only[aS,cA,cV,fg,e1,e3,e4,e5,e6,Gu,e8];clear e1 e3 e4 e5 e6 Gu e8;simp only[MH,Kh,Pa,gM,gN,rC,ld,sL,sR,bC,lC];go_wp2;exact⟨rfl,rfl,rfl,rfl,rfl,rfl,rfl,rfl⟩
structure GH(fb tb:Nat)(tmps:Array aj)(many:Int)(v:aj):Prop where
 size:tmps.size=71
 t4:tmps[4]?=some (ptr ⟨fb,0,none⟩)
 t5:tmps[5]?=some (ptr ⟨tb,0,none⟩)
 t6:tmps[6]?=some (ag af many)
 t9:tmps[9]?=some v
theorem ahY(h:GT xb fb tb sn tmps many m t8):Hd.wp aq (fun e a W'=>e=.normal/\GH fb tb a.tmps many (.slice none 0 0)/\W'=lw) ⟨tmps,[]⟩ lw:=by
 have e1:=bD h.t1;have e3:=bD h.t3;have e4:=bD h.t4;have e5:=bD h.t5;have e6:=bD h.t6;have Gu:=bD h.t18;have e8:=bD h.t8;rw[ve tmps h.size];simp only[aS,cA,cV,fg,e1,e3,e4,e5,e6,Gu,e8];clear e1 e3 e4 e5 e6 Gu e8;simp only[Hd,Kh,Pa,gM,gN,rC,ld,sL,sR,bC,lC];go_wp2;exact⟨rfl,rfl,rfl,rfl,rfl⟩
theorem ahX{v:aj}(h:GH fb tb tmps many v):SJ.wp aq (fun e a W'=>e=.normal/\GH fb tb a.tmps many v/\a.tmps[56]?=some (.bool (decide (0<many)))/\W'=lw) ⟨tmps,[]⟩ lw:=by
 have e4:=bD h.t4;have e5:=bD h.t5;have e6:=bD h.t6;have e9:=bD h.t9;rw[ve tmps h.size];simp only[aS,cA,cV,fg,e4,e5,e6,e9];clear e4 e5 e6 e9;simp only[SJ,NP,Vy,Vx,gN,rC,ld,sL,sR,bC,lC,cT,cE];go_wp2;exact⟨rfl,rfl,rfl,rfl,rfl⟩
theorem aaI{v x y:aj}(h:GH fb tb tmps many v)(hf:lw.cell? ⟨fb,0,none⟩=some x)(ht:lw.cell? ⟨tb,0,none⟩=some y):Bx.wp aq (fun e a W'=>e=.normal/\GH fb tb a.tmps many v/\a.tmps[57]?=some x/\a.tmps[58]?=some y/\W'=lw) ⟨tmps,[]⟩ lw:=by
 have e4:=bD h.t4;have e5:=bD h.t5;have e6:=bD h.t6;have e9:=bD h.t9;rw[ve tmps h.size];simp only[aS,cA,cV,fg,e4,e5,e6,e9];clear e4 e5 e6 e9;simp only[Bx,NP,Vy,Vx,gN,rC,ld,sL,sR,bC,lC,cT,cE];go_wp2;exact⟨rfl,rfl,rfl,rfl,rfl⟩
theorem ahW{v:aj}(hm:0<=many/\many<=1000)(h:GH fb tb tmps many v):SI.wp aq (fun e a W'=>e=.normal/\GH fb tb a.tmps (many-1) v/\W'=lw) ⟨tmps,[]⟩ lw:=by
 have e4:=bD h.t4;have e5:=bD h.t5;have e6:=bD h.t6;have e9:=bD h.t9;rw[ve tmps h.size];simp only[aS,cA,cV,fg,e4,e5,e6,e9];clear e4 e5 e6 e9;simp only[SI,NP,Vy,Vx,gN,rC,ld,sL,sR,bC,lC,cT,cE];go_wp2;exact⟨rfl,rfl,rfl,rfl,rfl⟩
end
noncomputable def ah3:Array Oper:=opsOf gR8
def ab_:gR8=.region 8 ah3 true:=kQ
def zv(b:BB)(lu:Nat)(sn m:Nat):Bool:=decide (m &&& (2 ^ lu-1)≠0)||decide (2 ^ (b.minutes.toNat+1)<=m)||decide (b.eI<((upTo (sn ||| m) 8).length:Int))
def _root_.Go.Lag.gw.some{n:Nat}{a:Act}{l:List (Tmp × aj)}(h:gw n a l)(k:Nat){t:Tmp}{v:aj}(hk:l[k]?=Option.some (t,v))(ht:t<n):a.tmps[t]?=Option.some v:=by
 have h1:a.tmps.getD t aw=v:=h.g k hk;have h2:t<a.tmps.size:=by rw[h.size];exact ht
 simp[Array.getD,h2] at h1;rw[Array.getElem?_eq_getElem h2,h1]
def P9(y:Nat)(hy:y<=63)(t:a7)(w:ak):(Go.binOp .shl t (ag af 1) (ag af (y:Int))).run aq w=.ok (ag af (IntKind.i64.wrap (2 ^ y))) w:=by
 have h:¬(y:Int)<0:=oM;have e:min (y:Int).toNat IntKind.i64.bits=y:=by show min (y:Int).toNat 64=y;omega
 show(Op.shift .shl af 1 af (y:Int)).run aq w=_;unfold Op.shift;rw[if_neg h,e];show Result.ok (aD af (IntKind.i64.wrap (1*2 ^ y))) w=_;rw[Int.one_mul]
section
variable{xb fb tb sn:Nat}{tmps:Array aj}{many:Int}{m:Nat}{lw:ak}
def Q8(xb fb tb sn pb:Nat)(many:Int)(m:Nat)(r:Bool)(lw:ak)(a:Act)(W':ak):Prop:=
 GT xb fb tb sn a.tmps many m (ptr ⟨pb,0,none⟩)/\a.tmps[50]?=some (.bool r)/\Bw lw W'
theorem pR8{b:BB}{bq aM aC:aj}{pb:Nat}(hb:b.Ok)(Sg:sn<512)(hm:m<512)(h:GT xb fb tb sn tmps many m (ptr ⟨pb,0,none⟩))(h7:tmps[7]?=some (ag af m))
  (hx:∀i u,(b.cells bq aM aC)[i]?=some u->lw.cell? ⟨xb,i,none⟩=some u) (hp:lw.cell? ⟨pb,0,none⟩=some (ag af ((sn ||| m:Nat):Int))) (hlt:xb<lw.heap.size/\pb<lw.heap.size)
  {lu:Nat} (YI:1<=lu/\lu<=9) (hB:∀w1,Bw lw w1->Calls aq 155 #[.agg (b.cells bq aM aC)] w1 (Rt w1 (ag af lu))) :
  gR8.wp aq (fun e a W'=>e=.normal/\Q8 xb fb tb sn pb many m (zv b lu sn m) lw a W') ⟨tmps,[]⟩ lw:=by
 have hp9:sn ||| m<512:=Nat.or_lt_two_pow (n:=9) Sg hm
 have xu:=hb.minutes;have ajn:=hb.eI;generalize hpp:sn ||| m=p at *
 obtain⟨Y,hY⟩:∃Y:Int,(2:Int) ^ lu=Y:=⟨_,rfl⟩
 have hYn:Y=((2 ^ lu:Nat):Int):=by rw[<-hY];simp
 have hYb:(2:Nat) ^ lu<=512/\1<=(2:Nat) ^ lu:=⟨Nat.pow_le_pow_right (j:=9) oM oM,Nat.one_le_two_pow⟩
 generalize hK2:(2:Nat) ^ lu=K2 at hYn hYb;have w1e:IntKind.i64.wrap (2 ^ lu)=Y:=by rw[hY,hYn];exact fO _ (Int.natCast_nonneg _) oM
 have w2:IntKind.i64.wrap (Y-1)=Y-1:=by rw[hYn];exact fO _ oM oM
 have a1:bits .and af (m:Int) (Y-1)=((m &&& (K2-1):Nat):Int):=by
  have e:Y-1=((K2-1:Nat):Int):=by rw[hYn];omega
  rw[e];exact aam m (K2-1) oM oM
 obtain⟨mn,hmn⟩:∃mn:Nat,b.minutes=mn:=⟨b.minutes.toNat,oM⟩
 have hZb:(2:Nat) ^ (mn+1)<=512/\1<=(2:Nat) ^ (mn+1):=⟨Nat.pow_le_pow_right (j:=9) oM oM,Nat.one_le_two_pow⟩
 have w3:IntKind.i64.wrap (b.minutes+1)=((mn+1:Nat):Int):=by rw[hmn];exact fO _ oM oM
 obtain⟨Z,hZ⟩:∃Z:Int,(2:Int) ^ (mn+1)=Z:=⟨_,rfl⟩
 have hZn:Z=((2 ^ (mn+1):Nat):Int):=by rw[<-hZ];simp
 have hSK:zv b lu sn m=(decide (m &&& (K2-1)≠0)||decide (2 ^ (mn+1)<=m)||decide (b.eI<((upTo p 8).length:Int))):=by unfold zv;rw[hpp,hK2,hmn];rfl
 generalize (2:Nat) ^ (mn+1)=Z2 at *;have w4:IntKind.i64.wrap (2 ^ (mn+1))=Z:=by rw[hZ,hZn];exact fO _ (Int.natCast_nonneg _) oM
 have hF:gw 71 ⟨tmps,[]⟩ [(1,ptr ⟨xb,0,none⟩),(3,ag af sn),(4,ptr ⟨fb,0,none⟩),(5,ptr ⟨tb,0,none⟩),(6,ag af many),(18,ag af m),(8,ptr ⟨pb,0,none⟩),(7,ag af m)]:=
  ⟨h.size,rfl,bD h.t1,bD h.t3,bD h.t4,bD h.t5,bD h.t6,bD h.t18,bD h.t8,bD h7,trivial⟩
 have cx:∀w1,Bw lw w1->∀i u,(b.cells bq aM aC)[i]?=some u->w1.cell? ⟨xb,i,none⟩=some u:=fun w1 hS i u hi=>(hS.cell (p:=⟨xb,i,none⟩) hlt.1).trans (hx i u hi);rw[ab_]
 refine acK kQ ⟨[],[(2,.agg (b.cells bq aM aC)),(3,ag af lu),(4,ag af Y),(5,ag af (Y-1)),(6,ag af ((m &&& (K2-1):Nat):Int)),(13,ag af b.minutes),(14,ag af ((mn+1:Nat):Int)),(15,ag af Z),(19,ag af (p:Int)),(20,ag af ((upTo p 8).length:Int)),(24,ag af b.eI)],[],[]⟩
  [(50,.bool (((!(((m &&& (K2-1):Nat):Int)==0))||decide ((m:Int)≥Z))||decide (((upTo p 8).length:Int)>b.eI)))] hF trivial
  ⟨fun w1 hS _=>gs (nV 119 (ptr ⟨xb,0,none⟩)) (by
    have c:=cx w1 hS;have z0:=c 0 _ rfl;have z1:=c 1 _ rfl;have z2:=c 2 _ rfl;have z3:=c 3 _ rfl;have z4:=c 4 _ rfl;have z5:=c 5 _ rfl;have z6:=c 6 _ rfl;have z7:=c 7 _ rfl;have z8:=c 8 _ rfl;have z9:=c 9 _ rfl;have z10:=c 10 _ rfl;have z11:=c 11 _ rfl;have z12:=c 12 _ rfl;have z13:=c 13 _ rfl;have z14:=c 14 _ rfl
    go_simp),
   fun w1 hS _=>gc (hB w1 hS),fun w1 _ _=>gs _ ((P9 lu oM 108 w1).trans (by rw[w1e])),fun _ _ _=>ge (congrArg (aD af) w2),fun w1 _ _=>gs (Go.binOp .and 108 (ag af m) (ag af (Y-1))) (by rw[hYn] at a1 ⊢;go_simp),
   fun w1 hS _=>gl (cx w1 hS 3 _ rfl),fun _ _ _=>ge (congrArg (aD af) w3),fun w1 _ _=>gs _ ((P9 (mn+1) oM 3 w1).trans (by rw[w4])),fun w1 hS _=>gl ((hS.cell (p:=⟨pb,0,none⟩) hlt.2).trans hp),fun w1 hS _=>gc (tX p hp9 w1),fun w1 hS _=>gl (cx w1 hS 6 _ rfl),trivial⟩ ?_
 intro a w ho hF;refine⟨rfl,⟨hF.size,hF.some 1 rfl dC,hF.some 2 rfl dC,hF.some 3 rfl dC,hF.some 4 rfl dC,hF.some 5 rfl dC,hF.some 6 rfl dC,hF.some 7 rfl dC⟩,?_,ho⟩;rw[hF.some 0 rfl dC,hSK];rw[hZn]
 have e1:(!(((m &&& (K2-1):Nat):Int)==0))=decide (m &&& (K2-1)≠0):=by
  rw[Bool.eq_iff_iff];simp
 have e2:decide ((m:Int)≥((Z2:Nat):Int))=decide (Z2<=m):=sM;rw[e1,e2]
theorem Yk:(Tryz.prog.info? 108).map (fun i=>(i.zero,i.size,i.bytes))=some (some (ag af 0),1,8):=kQ
def Q18(fb tb:Nat)(many:Int)(out:List Nat)(B:Nat)(lw:ak)(a:Act)(W':ak):Prop:=
 ∃v,GH fb tb a.tmps many v/\W'.ownsRow B 108 1 v out.length (out.map fun(p:Nat)=>aD af (p:Int))/\Below B lw W'
theorem aaH{v:aj}{x y z:aj}{out:List Nat}{p B:Nat}(ho:out.length<=1000)(h:GH fb tb tmps many v)(h59:tmps[59]?=some (cH #[x,y,ag af p,z]))(hown:lw.ownsRow B 108 1 v out.length (out.map fun(p:Nat)=>aD af (p:Int)))(hB:B<=lw.heap.size) :
  Bv.wp aq (fun e a W'=>e=.normal/\Q18 fb tb many (out++[p]) B lw a W') ⟨tmps,[]⟩ lw:=by
 obtain⟨i0,hi,hz0,hz1,hz2⟩:=info_parts Yk;have e4:=bD h.t4;have e5:=bD h.t5;have e6:=bD h.t6;have e9:=bD h.t9;have e59:=bD h59;rw[ve tmps h.size];simp only[aS,cA,cV,fg,e4,e5,e6,e9,e59];clear e4 e5 e6 e9 e59;simp only[Bv,NP,Vy,Vx,gN,rC,ld,sL,sR,bC,lC,cT,cE]
 go_wp2_with (at_builtin;refine wpList_append_own _ rfl _ _ 172 rfl B 108 i0 (ag af 0) 1 8 Tryz.underlying172 hi hz0 hz1 hz2 rfl dC _ _ _ rfl (hown.alloc _) ⟨lw.heap.size,0,none⟩ 1 1 [ag af p] rfl rfl (ZB (Na _ _ _)) (Uz rfl) (by unfold maxLen;omega) oM sO ?_)
 intro v' w1 hown' hgrow _;have hb1:Below B lw w1:=((Below.refl _ _).alloc hB _).grown hgrow sO (fun j hj=>(hown.lt j hj).1);clear hgrow;go_wp2;exact⟨v',⟨rfl,rfl,rfl,rfl,rfl⟩,by simpa using hown',hb1⟩
end
end Go.Proofs.YtffladgmkiimjaaGreatDoor
namespace Go.Lag
open Go.Conc
section
variable{P:aN}{c0 c1:Nat}{z0 z1:aj}{Fin:List aj->List aj->(Nat->Prop)->(Nat->Prop)->aH->ak->Prop}{f m:Nat}{acc out:List aj}{S O:Nat->Prop}{g:aH}{w:ak}
theorem gV.wide{w0:ak}(h:gV P c0 c1 z0 z1 Fin f m acc out S O g w):∀(E:Nat->Prop),(∀c,E c->c<w.heap.size/\¬O c/\w.heap[c]?=w0.heap[c]?)->
  gV P c0 c1 z0 z1 (fun acc out _ O g w'=>∃S,Fin acc out S O g w'/\∀c,E c->¬O c/\w'.heap[c]?=w0.heap[c]?) f m acc out (fun c=>S c\/E c) O g w:=by
 have nar:∀ {S O E:Nat->Prop} {w w1:ak},iV (fun c=>(S c\/E c)\/O c) w w1->iV (fun c=>S c\/O c) w w1:=fun hr=>⟨hr.grow,fun c hc=>hr.keep c (hc.imp .inl id)⟩
 induction h with
 |fin hs h=>
  intro E hE;exact .fin hs fun w1 hr=>⟨_,h w1 (nar hr),fun c hc=>⟨(hE c hc).2.1,(hr.keep c (.inl (.inr hc))).trans (hE c hc).2.2⟩⟩
 |@step f m acc out S O g w a b c d ih=>
  intro E hE;refine .step a b (fun w1 hr=>?_) fun w1 hr g2 w2 es he=>?_
  .obtain⟨g2,w2,es,e,hg,h1,h2⟩:=c w1 (nar hr);exact⟨g2,w2,es,e,⟨hg.grow,hg.keep,hg.tape,hg.drawn,hg.os,hg.out,fun x hx=>(hg.evs x hx).mono (fun c hc=>hc.imp .inl id) fun c hc=>hc⟩,h1,h2⟩
  refine ih w1 (nar hr) g2 w2 es he E fun x hx=>?_;obtain⟨h1,h2,h3⟩:=hE x hx;obtain⟨g3,w3,es3,e3,hg,_,_⟩:=c w1 (nar hr);rw[he] at e3;injection e3 with e4 e5 e6
  subst e5;have hlt:x<w1.heap.size:=bw h1 hr.grow;exact⟨bw hlt hg.grow,fun ho=>ho.elim h2 fun hn=>by omega,by rw[hg.keep x hlt h2,hr.keep x (.inl (.inr hx))];exact h3⟩
 |spawn h1 h2 h2' h3 h4 h5 h6 _ ih=>
  intro E hE
  exact .spawn h1 h2 h2' (fun c hc=>(h3 c hc).imp .inl id) h4 (fun c hc=>hc.elim (fun hc=>(h5 c hc).imp .inl id) fun hc=>.inl (.inr hc)) (fun c hc=>⟨(h6 c hc).1,(h6 c hc).2.1,fun h=>h.elim (h6 c hc).2.2 fun he=>(hE c he).2.1 (h6 c hc).1⟩)
   (ih E fun c hc=>⟨(hE c hc).1,fun ho=>(hE c hc).2.1 (h6 c ho).1,(hE c hc).2.2⟩)
 |select h1 _ _ ZC ih2=>
  intro E hE;exact .select h1 (fun v f' e hv=>ZC v f' e hv E hE) fun hf=>ih2 hf E hE
structure MS(P:aN)(F:Nat->Bool)(B S O:Nat->Prop)(tmps bH:Array aj)(lw w:ak)(U:Rn):Prop where
 av:iZ F U tmps bH
 wr:WR F P.globals.size B U lw w
 wB:P.globals.size<=w.heap.size
 Me:P.globals.size<=lw.heap.size
 own:O=U.owns B
 shared:∀c,S c↔∃b,B b/\U b=some c
 ok:dI lw
variable{F:Nat->Bool}{B:Nat->Prop}{tmps bH:Array aj}{lw:ak}{U:Rn}
theorem MS.rely(h:MS P F B S O tmps bH lw w U){w2:ak}(hr:iV (fun c=>S c\/O c) w w2):MS P F B S O tmps bH lw w2 U:=
 ⟨h.av,h.wr.rely (by
  have e:(fun c=>S c\/O c)=fun c=>(∃b,B b/\U b=some c)\/U.owns B c:=by funext c;rw[h.shared c,h.own]
  rwa [e] at hr),aF h.wB hr.grow,h.Me,h.own,h.shared,h.ok⟩
theorem MS.set(h:MS P F B S O tmps bH lw w U){v v':aj}(hv:VR F U v v')(i:Nat):MS P F B S O (tmps.setIfInBounds i v) (bH.setIfInBounds i v') lw w U:=
 ⟨h.av.set hv i,h.wr,h.wB,h.Me,h.own,h.shared,h.ok⟩
theorem MS.get(h:MS P F B S O tmps bH lw w U){i:Nat}{v:aj}(hv:tmps[i]?=some v):∃v',bH[i]?=some v'/\VR F U v v':=h.av.get hv
def o7(lw:ak)(b:Nat)(cs:Array aj)(e:a7)(n:Nat):World:={ lw with heap:=lw.heap.setIfInBounds b (.cells cs e (0,max cs.size n)) }
theorem x_{b:Nat}{cs:Array aj}{e:a7}{n:Nat}:(o7 lw b cs e n).heap.size=lw.heap.size:=by simp[o7]
theorem qh{b:Nat}{cs:Array aj}{e:a7}{z:Nat × Nat}(h:lw.heap[b]?=some (.cells cs e z)){x:Nat}:(o7 lw b cs e z.2).heap[x]?=if x=b then some (.cells cs e (0,max cs.size z.2)) else lw.heap[x]?:=by
 unfold o7
 by_cases hx:x=b
 .subst hx;rw[if_pos rfl];exact bn (eR h)
 rw[if_neg hx];exact aG (Cb hx)
theorem WR.freeze{G:Nat}(h:WR F G B U lw w){b c:Nat}(hb:U b=some c){cs:Array aj}{e:a7}{z:Nat × Nat}(ho:lw.heap[b]?=some (.cells cs e z)):WR F G (fun x=>B x\/x=b) U (o7 lw b cs e z.2) w:=by
 refine⟨h.inj,h.low,fun x hx=>?_,fun x y hx=>?_,fun x o hx=>?_⟩
 .rw[x_];exact hx.elim (h.base x) fun e=>e▸eR ho
 .rw[qh ho];obtain⟨o,o',h1,h2,h3,h4⟩:=h.at_ x y hx
  by_cases hxb:x=b
  .subst hxb;rw[if_pos rfl];rw[ho] at h1;cases h1;refine⟨_,o',rfl,h2,?_,fun _=>⟨_,_,_,rfl,oN⟩⟩;cases h3 with
   |cells ha hz=>exact .cells ha fun i h5 h6=>⟨gD _,by have:=(hz i h5 h6).2;simp only;omega⟩
  rw[if_neg hxb];exact⟨o,o',h1,h2,h3,fun hB=>h4 (hB.elim id fun e=>absurd e hxb)⟩
 rw[qh ho] at hx;split at hx
 .cases hx;rfl
 exact h.JL _ _ hx
theorem MK{b:Nat}{cs:Array aj}{e:a7}{z:Nat × Nat}(ho:lw.heap[b]?=some (.cells cs e z))(h:dI lw):dI (o7 lw b cs e z.2):=by
 intro x o hx;rw[qh ho] at hx;split at hx
 .cases hx;exact .inl rfl
 exact h x o hx
theorem MS.freeze(h:MS P F B S O tmps bH lw w U){b c:Nat}(hb:U b=some c)(hB:¬B b){cs:Array aj}{e:a7}{z:Nat × Nat}(ho:lw.heap[b]?=some (.cells cs e z)) :
  MS P F (fun x=>B x\/x=b) (fun x=>S x\/x=c) (fun x=>O x/\x≠c) tmps bH (o7 lw b cs e z.2) w U:=by
 refine⟨h.av,h.wr.freeze hb ho,h.wB,by rw[x_];exact h.Me,?_,fun x=>?_,MK ho h.ok⟩
 .funext x
  rw[h.own];refine propext ⟨fun⟨⟨y,h1,h2⟩,h3⟩=>⟨y,fun h4=>h4.elim h1 fun e=>h3 ?_,h2⟩,fun⟨y,h1,h2⟩=>⟨⟨y,fun hy=>h1 (.inl hy),h2⟩,fun e=>h1 (.inr ?_)⟩⟩
  .subst e;rw[hb] at h2;exact(bp h2).symm
  subst e;exact h.wr.inj _ _ _ h2 hb
 constructor
 .rintro(hx|rfl)
  .obtain⟨y,h1,h2⟩:=(h.shared x).1 hx;exact⟨y,.inl h1,h2⟩
  exact⟨b,.inr rfl,hb⟩
 rintro⟨y,h1|rfl,h2⟩
 .exact .inl ((h.shared x).2 ⟨y,h1,h2⟩)
 rw[hb] at h2;exact .inr (bp h2).symm
variable{fn:d_}{kd:kh}{k:List Item}{cs:List b_}{aP:Array cO}
theorem XG{i:Nat}{rest:List Nat}{o:cO}{x:bI}{tys:Array a7}(Ds:kd≠.early)(ho:aP[i]?=some o)(hop:o.op=.go { callee:=.value x,args:=#[],argTypes:=tys })(hd:o.dst=none)(hg:o.guard=none)
  {fi:d_} {captured:Array aj} (hx:(jz fn tmps (.inRegion aP (i::rest)::k) .run kd).eval x=.func (.func fi) #[] captured):AtGo P (GK fn tmps (.inRegion aP (i::rest)::k) kd cs) (GK fn tmps (.inRegion aP rest::k) kd cs) (xi P fi captured):=by
 refine⟨rfl,rfl,fun w=>?_⟩;have hw:((aP[i]?).map (cU · (yielded aP tmps))).getD false=true:=by rw[ho];simp[cU,hg]
 have YA:(kd == .early)=false:=beq_eq_false_iff_ne.2 Ds;have e1:fE P true (GK fn tmps (.inRegion aP (i::rest)::k) kd cs) w=fB P true (jz fn tmps (.inRegion aP (i::rest)::k) .run kd) cs none w:=if_pos hw;rw[e1]
 have e2:bY (jz fn tmps (.inRegion aP (i::rest)::k) .run kd).eval o=eZ (Next.spawn { target:=.fn (.func fi) captured,args:=#[] }):=by
  unfold bY;rw[hop];simp only[resolve,hx,Deferred.ofValue,List.map_toArray,fg,en,pure_bind]
 have e3:fB P true (jz fn tmps (.inRegion aP (i::rest)::k) .run kd) cs none w=eC P true (jz fn tmps (.inRegion aP (i::rest)::k) .run kd) cs none (bY (jz fn tmps (.inRegion aP (i::rest)::k) .run kd).eval o) w:=by
  unfold fB;have:(jz fn tmps (.inRegion aP (i::rest)::k) .run kd).oper?=some o:=ho;rw[this];rfl
 rw[e3,e2];unfold eC;have e4:(eZ (Next.spawn { target:=.fn (.func fi) captured,args:=#[] }):Sem Next).runT P w #[]=(.ok (.spawn { target:=.fn (.func fi) captured,args:=#[] }) w,#[]):=rfl;simp only[if_true,e4];simp only[jz,YA,bG,if_false,GStep.after,en,Frame.finish,ho,gW,hd,Bool.and_false,Bool.false_and];rfl
theorem TV{i:Nat}{rest:List Nat}{o:cO}{x y:bI}{t0 t1:a7}(Ds:kd≠.early)(ho:aP[i]?=some o)(hop:o.op=.select #[{ chan:=x,send:=none,elem:=t0 },{ chan:=y,send:=none,elem:=t1 }] true)(hg:o.guard=none)
  (hz0:∀w es,(je t0).runT P w es=(.ok z0 w,es)) (hz1:∀w es,(je t1).runT P w es=(.ok z1 w,es))
  (hx:(jz fn tmps (.inRegion aP (i::rest)::k) .run kd).eval x=.chan (some c0)) (hy:(jz fn tmps (.inRegion aP (i::rest)::k) .run kd).eval y=.chan (some c1)):aav P c0 c1 z0 z1 (GK fn tmps (.inRegion aP (i::rest)::k) kd cs):=by
 refine⟨rfl,rfl,rfl,fun w=>?_⟩;have hw:((aP[i]?).map (cU · (yielded aP tmps))).getD false=true:=by rw[ho];simp[cU,hg]
 have YA:(kd == .early)=false:=beq_eq_false_iff_ne.2 Ds;have e1:fE P true (GK fn tmps (.inRegion aP (i::rest)::k) kd cs) w=fB P true (jz fn tmps (.inRegion aP (i::rest)::k) .run kd) cs none w:=if_pos hw;rw[e1]
 have e2:(bY (jz fn tmps (.inRegion aP (i::rest)::k) .run kd).eval o).runT P w #[]=(.ok (Next.comm (j0 c0 c1 z0 z1) true .select) w,#[]):=by
  have h1:bY (jz fn tmps (.inRegion aP (i::rest)::k) .run kd).eval o=((je t0).bind fun a=>(je t1).bind fun b=>eZ (Next.comm #[{ chan:=.chan (some c0),send:=none,zero:=a },{ chan:=.chan (some c1),send:=none,zero:=b }] true .select)):=by
   unfold bY;rw[hop];simp only[pH,<-List.mapM'_eq_mapM,List.mapM',hx,hy,Option.map_none,bind_assoc,pure_bind,map_eq_pure_bind];rfl
  rw[h1,Hx,hz0];simp only;rw[Hx,hz1];rfl
 have e3:fB P true (jz fn tmps (.inRegion aP (i::rest)::k) .run kd) cs none w=eC P true (jz fn tmps (.inRegion aP (i::rest)::k) .run kd) cs none (bY (jz fn tmps (.inRegion aP (i::rest)::k) .run kd).eval o) w:=by
  unfold fB;have:(jz fn tmps (.inRegion aP (i::rest)::k) .run kd).oper?=some o:=ho;rw[this];rfl
 rw[e3];unfold eC;simp only[if_true,e2];simp only[jz,YA,bG,if_false];rfl
theorem F7{i:Nat}{rest:List Nat}{o:cO}{d:Tmp}(ho:aP[i]?=some o)(hd:o.dst=some d)(kk:Nat)(v:aj) :
  iN P c0 c1 z0 z1 (GK fn tmps (.inRegion aP (i::rest)::k) kd cs) kk v=GK fn (tmps.setIfInBounds d (.tuple #[goInt kk,.bool true,if kk=0 then v else z0,if kk=1 then v else z1])) (.inRegion aP rest::k) kd cs:=by
 have hc:commResult (j0 c0 c1 z0 z1) .select kk v true=.tuple #[goInt kk,.bool true,if kk=0 then v else z0,if kk=1 then v else z1]:=by
  simp only[commResult,j0,rcase]
  congr 1
  have e0:(((0:Nat):Int)=(kk:Int))=(kk=0):=by apply propext;omega
  have e1:(((1:Nat):Int)=(kk:Int))=(kk=1):=by apply propext;omega
  simp;simp only[Int.natCast_zero,Int.natCast_one] at e0 e1;constructor
  .by_cases h:kk=0<;>simp[h,e0]<;>omega
  by_cases h:kk=1<;>simp[h,e1]<;>omega
 simp only[iN,Goroutine.finishComm,GK,G,jz,Frame.finish,ho,hd,gW,hc]
end
section
variable{P:aN}{c0 c1:Nat}{z0 z1:aj}{Fin:List aj->List aj->(Nat->Prop)->(Nat->Prop)->aH->ak->Prop}{f m:Nat}{acc out:List aj}{S O:Nat->Prop}{g:aH}{w:ak}
 {F:Nat->Bool} {B:Nat->Prop} {tmps bH:Array aj} {lw:ak} {U:Rn}
theorem MS.wV(h:MS P F B S O tmps bH lw w U){c:Nat}(hc:S c):c<w.heap.size/\¬O c:=by
 obtain⟨b,hB,hρ⟩:=(h.shared c).1 hc;obtain⟨o,o',_,h2,_⟩:=h.wr.at_ b c hρ;refine⟨eR h2,fun ho=>?_⟩;rw[h.own] at ho;obtain⟨b',h1,h3⟩:=ho;exact h1 (h.wr.inj _ _ _ hρ h3▸hB)
theorem gV.aaG(T:Quiet P)(hF:vn P F){fn:d_}{kd:kh}(hE:kd≠.early)(hi:P.inits.idxOf? fn=none){c:gZ}(hc:iL P F c=true)(hc':eb c=true)
  (hm:MS P F B S O tmps bH lw w U) {Q:Act->ak->Prop} (hQ:∀a W' I d,Q a (dH W' I d)->Q a W') (h:∀I d,c.wp P (fun e a W'=>e=.normal/\Q a W') ⟨tmps,[]⟩ (dH lw I d)) {k:List Item} {cs:List b_}
  (cont:∀nX lx kW ρ1 O1 w1,MS P F B S O1 nX lx kW w1 ρ1->Q ⟨nX,[]⟩ kW->Rn.le U ρ1->(∀c,O c->O1 c)->(∀c,S c->w1.heap[c]?=w.heap[c]?)->gV P c0 c1 z0 z1 Fin f m acc out S O1 (G (jz fn lx k .run kd) cs) w1) :
  gV P c0 c1 z0 z1 Fin f m acc out S O (G (jz fn bH (.code c::k) .run kd) cs) w:=by
 have hw:=Ec (main:=true) T hF hm.Me hE hi hc hc' hm.av hm.wr hm.wB hm.ok hQ h hm.shared k cs;rw[<-hm.own] at hw;have hw':=hw.keep w fun c hc=>⟨(hm.wV hc).1,(hm.wV hc).2,rfl⟩
 refine gV.JK hw' ?_;rintro O1 g1 w1 ⟨⟨nX,lx,kW,ρ1,rfl,Vn,hq,hkn⟩,hk⟩;refine cont nX lx kW ρ1 O1 w1 ⟨Vn,hkn.wr,hkn.wB,aF hm.Me hkn.grow,hkn.own,hkn.shared,hkn.ok⟩ hq hkn.le (fun c ho=>?_) fun c hc=>(hk c hc).2.2;rw[hm.own] at ho;obtain⟨b,h1,h2⟩:=ho;rw[hkn.own];exact⟨b,h1,hkn.le _ _ h2⟩
theorem gV.op{aP:Array cO}{i:Nat}{rest:List Nat}{o:cO}{fn:d_}{kd:kh}{k:List Item}{cs:List b_}{v:aj}{d:Tmp}(Ds:kd≠.early)(ho:aP[i]?=some o)(hg:o.guard=none)(hd:o.dst=some d)
  (h:∀w,(bY (jz fn bH (.inRegion aP (i::rest)::k) .run kd).eval o).runT P w #[]=(.ok (.value v) w,#[]))
  (hk:gV P c0 c1 z0 z1 Fin f m acc out S O (GK fn (bH.setIfInBounds d v) (.inRegion aP rest::k) kd cs) w):gV P c0 c1 z0 z1 Fin f m acc out S O (GK fn bH (.inRegion aP (i::rest)::k) kd cs) w:=by
 refine .ctl rfl rfl (fun w=>?_) rfl rfl hk;have:=P2 (P:=P) (main:=true) (fn:=fn) (tmps:=bH) (kd:=kd) (k:=k) (cs:=cs) (rest:=rest) Ds ho hg (h w);rw[this];simp only[hd];rfl
end
end Go.Lag
namespace Go.Proofs.YtffladgmkiimjaaGreatDoor
open Go.RowKit Go.Lag
open Go.Conc
def mX(X:Nat->Prop)(w:ak)(v:aj)(n:Nat)(xs:List aj):Prop:=
 (v=.slice none 0 0/\n=0/\xs=[])\/∃g off cap,v=.slice (some ⟨g,off,none⟩) n cap/\(n<=4294967296/\n<=cap)/\X g/\∀j u,xs[j]?=some u->w.cell? ⟨g,off+j,none⟩=some u
def mX.to{X:Nat->Prop}{w0 w:ak}{v:aj}{n:Nat}{xs:List aj}(h:mX X w0 v n xs)(hlt:∀c,X c->c<w.heap.size)(hc:∀a:cX,X a.block->w.cell? a=w0.cell? a):Reads w v n xs:=by
 rcases h with h|⟨g,off,cap,h1,h2,h3,h4⟩
 .exact .inl h
 exact .inr ⟨g,off,cap,h1,h2,hlt g h3,fun j u hj=>(hc ⟨g,off+j,none⟩ h3).trans (h4 j u hj)⟩
structure PR(P:aN)(b:BB)(bq aM aC all:aj)(l:List dS)(ss:List Int)(ms:List Mk)(X0:Nat->Prop)(w0:ak)(xb fb tb c0 c1:Nat):Prop where
 e:P=aq
 f178:P.funcs[(178:Nat)]?=some Tryz.f178
 i159:P.inits.idxOf? 159=none
 i178:P.inits.idxOf? 178=none
 ok:b.Ok
 acP:∀a∈l,a.Ok
 Ik:∀s∈ss,1<=s/\s<=8
 mks:∀m∈ms,1<=m.minute/\m.minute<=8
 cl:Closed fw X0 w0
 low:∀c,X0 c->P.globals.size<=c
 wB:P.globals.size<=w0.heap.size
 xx:X0 xb
 xf:X0 fb
 xt:X0 tb
 xc:∀i u,(b.open bq aM aC all)[i]?=some u->w0.cell? ⟨xb,i,none⟩=some u
 fc:w0.cell? ⟨fb,0,none⟩=some (.chan (some c0))
 tc:w0.cell? ⟨tb,0,none⟩=some (.chan (some c1))
 rs:mX X0 w0 aM ss.length (ss.map (aD .i64))
 rm:mX X0 w0 aC ms.length (dV ms)
 ra:mX X0 w0 all l.length (rowOf l)
def Kp(X0:Nat->Prop)(w0 lw:ak):Prop:=∀c,X0 c->lw.heap[c]?=(shut X0 w0).heap[c]?
section
variable{P:aN}{b:BB}{bq aM aC all:aj}{l:List dS}{ss:List Int}{ms:List Mk}{X0:Nat->Prop}{w0:ak}{xb fb tb c0 c1:Nat}
 {S O:Nat->Prop} {tmps bH:Array aj} {lw w:ak} {U:Rn} {B:Nat->Prop}
theorem Kp.cell(h:Kp X0 w0 lw){a:cX}(ha:X0 a.block):lw.cell? a=w0.cell? a:=(iu (h _ ha)).trans (wU ha)
theorem Kp.lt(E:PR P b bq aM aC all l ss ms X0 w0 xb fb tb c0 c1)(h:Kp X0 w0 lw){c:Nat}(hc:X0 c):c<lw.heap.size:=by
 obtain⟨cs,e,z,h1,_⟩:=E.cl c hc;have:=h c hc;rw[Ej h1 hc] at this;exact eR this
theorem Kp.below(E:PR P b bq aM aC all l ss ms X0 w0 xb fb tb c0 c1)(h:Kp X0 w0 lw){eL:ak}(hb:Bw lw eL):Kp X0 w0 eL:=fun c hc=>(hb.block c (h.lt E hc)).trans (h c hc)
theorem Kp.reads(E:PR P b bq aM aC all l ss ms X0 w0 xb fb tb c0 c1)(h:Kp X0 w0 lw){v:aj}{n:Nat}{xs:List aj}(hr:mX X0 w0 v n xs):Reads lw v n xs:=hr.to (fun c hc=>h.lt E hc) fun a ha=>h.cell ha
theorem Kp.heap(h:Kp X0 w0 lw){eL:ak}(e:eL.heap=lw.heap):Kp X0 w0 eL:=fun c hc=>by rw[e];exact h c hc
structure St(P:aN)(X0:Nat->Prop)(w0:ak)(S O:Nat->Prop)(tmps bH:Array aj)(lw w:ak)(U:Rn)(B:Nat->Prop):Prop where
 ms:MS P fw B S O tmps bH lw w U
 id:Rn.le (yG X0) U
 xB:∀c,X0 c->B c
 kp:Kp X0 w0 lw
 kw:∀c,X0 c->w.heap[c]?=w0.heap[c]?
theorem St.xS(st:St P X0 w0 S O tmps bH lw w U B){c:Nat}(hc:X0 c):S c:=(st.ms.shared c).2 ⟨c,st.xB c hc,st.id _ _ (v_ hc)⟩
theorem Zb{U:Rn}(hid:Rn.le (yG X0) U){a a':cX}(ha:X0 a.block)(h:AR U a a'):a'=a:=by
 have h1:=hid _ _ (v_ ha);have h2:=h.block;rw[h1] at h2;have h3:=bp h2;have h4:=h.off;have h5:=h.spot;obtain⟨b1,o1,s1⟩:=a;obtain⟨b2,o2,s2⟩:=a';dsimp only at h3 h4 h5;subst h3;subst h4;subst h5;rfl
theorem St.ptr(st:St P X0 w0 S O tmps bH lw w U B){i:Nat}{a:cX}(ha:X0 a.block)(hi:tmps[i]?=some (ptr a)):bH[i]?=some (ptr a):=by
 obtain⟨y,hy,hv⟩:=st.ms.get hi;cases hv with
 |@ptr _ a' Gt=>rw[Zb st.id ha Gt] at hy;exact hy
theorem St.flat(st:St P X0 w0 S O tmps bH lw w U B){i:Nat}{v:aj}(hv:v.oneCell'=true/\(match v with|.bool _|.int ..|.chan _=>true|_=>false)=true)(hi:tmps[i]?=some v):bH[i]?=some v:=by
 obtain⟨y,hy,h⟩:=st.ms.get hi;obtain⟨_,h2⟩:=hv;cases h<;>first|exact hy|cases h2
theorem St.bool(st:St P X0 w0 S O tmps bH lw w U B){i:Nat}{x:Bool}(hi:tmps[i]?=some (.bool x)):bH[i]?=some (.bool x):=st.flat ⟨rfl,rfl⟩ hi
theorem St.chan(st:St P X0 w0 S O tmps bH lw w U B){i:Nat}{x:Option Nat}(hi:tmps[i]?=some (.chan x)):bH[i]?=some (.chan x):=st.flat ⟨rfl,rfl⟩ hi
variable{z0 z1:aj}{Fin:List aj->List aj->(Nat->Prop)->(Nat->Prop)->aH->ak->Prop}{f m:Nat}{acc out:List aj}
theorem St.piece(E:PR P b bq aM aC all l ss ms X0 w0 xb fb tb c0 c1)(st:St P X0 w0 S O tmps bH lw w U B){c:gZ}(hc:(iL aq fw c&&eb c)=true){R:Act->ak->Prop}(hR:∀a W' I d,R a (dH W' I d)->R a W')
  (h:∀eL,eL.heap=lw.heap->c.wp aq (fun e a W'=>e=.normal/\R a W'/\Kp X0 w0 W') ⟨tmps,[]⟩ eL) {k:List Item} {cs:List b_}
  (cont:∀nX lx kW ρ1 O1 w1,St P X0 w0 S O1 nX lx kW w1 ρ1 B->R ⟨nX,[]⟩ kW->Rn.le U ρ1->(∀c,O c->O1 c)->gV P c0 c1 z0 z1 Fin f m acc out S O1 (GK 159 lx k .normal cs) w1) :
  gV P c0 c1 z0 z1 Fin f m acc out S O (GK 159 bH (.code c::k) .normal cs) w:=by
 have hq:Quiet P:=quiet_of E.e;have Sr:vn P fw:=MJ E.e;rw[aJ] at hc;refine gV.aaG hq Sr sM E.i159 (by rw[E.e];exact hc.1) hc.2 st.ms (Q:=fun a W'=>R a W'/\Kp X0 w0 W') (fun a W' I d hq=>⟨hR _ _ _ _ hq.1,hq.2⟩) (fun I d=>by rw[E.e];exact h (dH lw I d) rfl) ?_;intro nX lx kW ρ1 O1 w1 Ms hq hle hO hS;exact cont nX lx kW ρ1 O1 w1 ⟨Ms,fun b c h=>hle _ _ (st.id _ _ h),st.xB,hq.2,fun c hc=>(hS c (st.xS hc)).trans (st.kw c hc)⟩ hq.1 hle hO
end
def vV{c:gZ}(h:c∈[gR5,gR6,gR7,gR8,gR9,MH,Hd,SJ,Bx,Bv,SI]):(iL aq fw c&&eb c)=true:=aX.1 ah4 c h
end Go.Proofs.YtffladgmkiimjaaGreatDoor
