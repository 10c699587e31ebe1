/- ONE STEP OF A GOROUTINE: the return, the unwinding, the code. ONE STEP OF A GOROUTINE: the code. A COMMUNICATION of a goroutine that is alone, or besi .. -/
import Derived.Test.YtffladgmkiimjaaGreatDoorW06
import Derived.Conc.Beside
import Derived.Lone
import Derived.Calls
import Derived.Conc.Events
set_option linter.unusedVariables false
set_option linter.unusedSimpArgs false
set_option maxHeartbeats 100000000
set_option maxRecDepth 1000000
open Array renaming mem_append → FI,getElem?_setIfInBounds_self_of_lt → a7,getElem?_setIfInBounds_ne → aD,getElem?_eq_getElem → aR,replicate → aU,getD_eq_getD_getElem? → aW,getElem?_eq_some_iff → aj,getElem?_setIfInBounds → bD,mem_of_getElem? → fF,empty_append → fJ,getElem?_map → km,getElem?_push → lD,getElem?_modify → py
open Bool renaming and_eq_true → aS,false_eq_true → bF
open Classical renaming byContradiction → fM
open Go renaming Goroutine → aF,Program → aN,Value → ak,World → ar,Frame → bP,TypeId → bg,Question → dG,Addr → dc,FuncId → eD,runtimePanic → eL,stepG → fK,Event → gy,Sem → jO,unwind → lX,communicate → mR,CommCase → mU,behindNumber → qP,unsupported → qR,doReturn → ud,choose → zH
open Go.Conc renaming mem_ofEvents → AY,runT_crowd_go → Co,solo_eq_crowd → nC,crowd → qT,solo → wH
open Go.Frame renaming enter → eH
open Go.GStep renaming after → AX
open Go.MemAct renaming ofEvent → gq
open Go.MemOp renaming ofEvents → iL
open Go.Mode renaming plain → mF
open Go.Sem renaming runT → dF
open Go.World renaming setCell → jA
open Go.stepG renaming exec → cg,apply → eE,oper → fG
open List renaming mem_cons → cC,length_pos_iff → cP,getElem_mem → cz,mem_cons_of_mem → eG,not_mem_nil → eR,mem_toArray → fB,all_cons → fE,mem_filter → kz,getElem?_eq_getElem → lZ,mem_cons_self → mH
open Nat renaming le_refl → ay,lt_of_lt_of_le → bE,le_trans → bq,zero_add → eo,eq_zero_or_pos → jg,add_assoc → nD
open Option renaming map_eq_some_iff → eW,map_some → ej
open Option.some renaming inj → bt
open Pure renaming pure → fA
namespace Go.Lag
section
variable{P:aN}{lw w:ar}
theorem wS(T:Quiet P){fr:bP}{cs:List bP}(hfr:dE fr)(hcs : ∀c∈cs,dE c)(v:ak) :
  (∃g,zK g∧g.dying=none∧∀y,ud P true fr cs none v y=.go g y #[])∨(∀y,∃o,ud P true fr cs none v y=.ended o y #[]):=by
 cases cs with
 |cons c rest=>
  have hc:=hcs c (mH ..);have yL : ∀c∈rest,dE c:=fun x hx=>hcs x (eG _ hx);cases hk:fr.kind with
  |normal=>exact .inl ⟨_,fP (hc.finish v) yL,rfl,fun y=>by simp only[ud,hk];rfl⟩
  |wrapped=>exact .inl ⟨_,fP (hc.finish v) yL,rfl,fun y=>by simp only[ud,hk];rfl⟩
  |early=>exact .inl ⟨_,fP hc yL,rfl,fun y=>by simp only[ud,hk];rfl⟩
  |_=>
   refine .inl ⟨_,fP ?_ yL,rfl,fun y=>by simp only[ud,hk];rfl⟩;split
   ·split<;>exact hc.mode _
   ·exact hc
 |nil=>
  have key:fr.kind≠.report→∀y,ud P true fr [] none v y=(match P.inits.idxOf? fr.fn with
    |some k=>.go { frame:=eH P (P.initFrom (k+1)) #[] .normal,callers:=[],status:=.running,dying:=none } y
    |none=>.ended (.done v) y):=fun hk y=>by
   unfold ud;cases xC:fr.kind<;>first|exact absurd xC hk|rfl
  by_cases hk:fr.kind=.report
  ·exact .inr fun y=>⟨.stuck "report: Error or String returned no string" "",by obtain⟨fn,tmps,todo,defers,mode,kind,roundOf⟩:=fr;simp only at hk;subst hk;cases v<;>rfl⟩
  ·cases hi:P.inits.idxOf? fr.fn with
   |some k=>exact .inl ⟨_,fP (cs:=[]) (ou T _ _ _) (by simp),rfl,fun y=>by rw[key hk,hi]⟩
   |none=>exact .inr fun y=>⟨_,by rw[key hk,hi]⟩
theorem yX[uy](T:Quiet P){fr:bP}{cs:List bP}(hfr:dE fr)(hcs : ∀c∈cs,dE c){s:jO ak}(hs:Calm P Any s)(cZ:dD lw)(V:jy lw w)(F:ar→GStep)
  (h : ∃K:Result ak × Array gy→GStep,(∀y,F y=K (s.runT P y #[]))∧(∀v es,∃es',(∀e∈es' ++ #[],e∈es)∧∀x,K (.ok v x,es)=.after es' (ud P true fr cs none v x))∧(∀h x es,∃o es',K (.halt h x,es)=.ended o x es')) :
  GF P lw (F lw) (fun τ d=>F (cX w τ d)):=by
 obtain⟨K,h1,h2,h3⟩:=h;refine yg hs cZ V F ⟨K,h1,fun why x es=>h3 _ x es,fun r hr=>?_⟩;cases r with
 |error h=>exact ly.ended fun x new=>by obtain⟨o,es',e⟩:=h3 h x new;exact⟨_,_,_,e⟩
 |ok v=>
  intro x new;rcases wS T hfr hcs v with⟨g,hg,hgd,e⟩|e
  ·refine .inr (.inr (.inr (.inl ?_)));obtain⟨es',he,e2⟩:=h2 v new;exact⟨g,_,hg,hgd,he,fun y=>by rw[show zX (.ok v) y=.ok v y from rfl,e2,e];rfl⟩
  ·obtain⟨o,e⟩:=e x;obtain⟨es',he,e2⟩:=h2 v new;exact .inl ⟨o,x,_,by rw[show zX (.ok v) x=.ok v x from rfl,e2,e];rfl⟩
theorem gh{es:Array gy}{p:aN}{fn:eD} : ∀e,e∈seen p fn es ++ #[]→e∈es:=fun e h=>by
 rw[Array.append_empty] at h;exact mem_seen h
theorem AE[uy](T:Quiet P){fr:bP}{cs:List bP}(hfr:dE fr)(hcs : ∀c∈cs,dE c){d:Deferred}(hd:pE d=true)(cZ:dD lw)(V:jy lw w) :
  GF P lw (callDeferred P fr cs none d lw) (fun τ d'=>callDeferred P fr cs none d (cX w τ d')):=by
 by_cases hn:((d.target matches .nil)&&(fr.mode matches .panicking _))=true
 ·have : ∀y,∃o,callDeferred P fr cs none d y=.ended o y #[]:=fun y=>⟨_,by unfold callDeferred;exact if_pos hn⟩
  obtain⟨o,e⟩:=this lw;rw[e];trivial
 refine yg (rq T.toSC d.target d.args hd) cZ V (fun y=>callDeferred P fr cs none d y) ⟨?K,fun y=>?_,?_,?_⟩
 rotate_left
 ·unfold callDeferred;refine(if_neg hn).trans ?_;generalize (invoke d.target d.args).runT P y #[]=x;exact rfl
 ·intro why x es;exact⟨_,_,rfl⟩
 ·intro r hr;cases r with
  |ok n=>
   cases n with
   |enter f args=>exact ly.go (fP (ou T f args _) (CP hfr hcs)) rfl _ (fun _=>gh) fun y new=>rfl
   |round l f tmps a b=>exact ly.go (fP (wR hr.1 hr.2 _) (CP hfr hcs)) rfl _ (fun _=>gh) fun y new=>rfl
   |recover=>
    intro x new;refine .inr (.inr (.inr (.inl ?_)));cases hm:fr.mode with
    |returning=>
     cases ht:tryRecover fr cs with
     |none=>exact⟨_,_,fP hfr hcs,rfl,gh,fun y=>by simp only[zX,hm,ht];rfl⟩
     |some z=>exact⟨_,_,fP hfr (mr (v:=z.1) (cs':=z.2) hcs ht),rfl,gh,fun y=>by simp only[zX,hm,ht];rfl⟩
    |_=>exact⟨_,_,fP hfr hcs,rfl,gh,fun y=>by simp only[zX,hm];rfl⟩
   |value v=>exact ly.go (fP hfr hcs) rfl _ (fun _=>gh) fun y new=>rfl
   |skip=>exact ly.go (fP hfr hcs) rfl _ (fun _=>gh) fun y new=>rfl
   |defer d=>exact ly.go (fP hfr hcs) rfl _ (fun _=>gh) fun y new=>rfl
   |comm c b sh=>exact ly.go (fP hfr hcs) rfl _ (fun _=>gh) fun y new=>rfl
   |spawn d=>exact ly.go (fP hfr hcs) rfl _ (fun _=>gh) fun y new=>rfl
   |_=>exact hr.elim
  |error h=>
   cases h with
   |panic v=>exact ly.go (fP (hfr.raise _) hcs) rfl _ (fun _=>gh) fun y new=>rfl
   |goexit=>exact ly.go (fP (hfr.raise _) hcs) rfl _ (fun _=>gh) fun y new=>rfl
   |blocked=>exact absurd rfl hr.1
   |waiting=>exact absurd rfl hr.2
   |exit c=>exact ly.ended fun x new=>⟨_,_,_,rfl⟩
   |fatal m=>
    intro x new;dsimp only[zX];rcases uq (P:=P) fr cs none m x with⟨o,y,es',e⟩|⟨g,y,es',e,hd⟩
    ·rw[e];exact .inl ⟨_,_,_,rfl⟩
    ·rw[e];exact .inr (.inl ⟨_,_,_,rfl,hd⟩)
   |throw m=>exact ly.Ef fun x new=>⟨_,_,_,rfl,.inl rfl,_,rfl,rfl,NoEnter.nil P⟩
   |unsupported u=>exact ly.ended fun x new=>⟨_,_,_,rfl⟩
   |stuck s=>exact ly.ended fun x new=>⟨_,_,_,rfl⟩
theorem qd[uy]{g:aF}(cZ:dD lw)(V:jy lw w)(hg:zK g)(hgd:g.dying=none)(F:ar→GStep)(h : ∀y,F y=.go g y #[]):GF P lw (F lw) (fun τ d=>F (cX w τ d)):=by
 rw[h lw];exact Qc cZ V hg hgd fun τ d=>h _
theorem lS[uy](F:ar→GStep)(h : ∀y,∃o y' es,F y=.ended o y' es):GF P lw (F lw) (fun τ d=>F (cX w τ d)):=by
 obtain⟨o,y',es,e⟩:=h lw;rw[e];trivial
theorem EW[uy](F:ar→GStep)(h:(∃o y' es,F lw=.ended o y' es)∨∃g y es,F lw=.go g y es∧g.dyingOn P):GF P lw (F lw) (fun τ d=>F (cX w τ d)):=by
 rcases h with⟨o,y',es,e⟩|⟨g,y,es,e,hd⟩
 ·rw[e];trivial
 ·rw[e];exact .inl hd
theorem Lb[uy](T:Quiet P){fr:bP}{cs:List bP}(hfr:dE fr)(hcs : ∀c∈cs,dE c)(cZ:dD lw)(V:jy lw w) :
  GF P lw (lX P true fr cs none lw) (fun τ d=>lX P true fr cs none (cX w τ d)):=by
 obtain⟨ft,fd⟩:=hfr;obtain⟨fn,tmps,todo,defers,mode,kind,roundOf⟩:=fr;simp only at ft fd;cases defers with
 |cons d ds=>
  simp only[fE,aS] at fd;obtain⟨target,args⟩:=d;cases target with
  |collected block=>
   refine yg (P:=P) (zl block) cZ V (fun y=>lX P true _ cs none y) ⟨?K,fun y=>?_,?_,?_⟩
   rotate_left
   ·unfold lX;dsimp only;generalize (Instr.takeDeferred block).runT P y #[]=x;exact rfl
   ·intro why x es;exact⟨_,_,rfl⟩
   ·intro r hr;cases r with
    |ok calls=>exact ly.go (fP ⟨ft,by show(calls ++ ds).all pE=true;rw[List.all_append,fd.2,Bool.and_true];exact hr⟩ hcs) rfl _ (fun _=>gh) fun y new=>rfl
    |error h=>exact ly.ended fun x new=>⟨_,_,_,rfl⟩
  |_=>exact AE T (fr:=⟨fn,tmps,todo,ds,mode,kind,roundOf⟩) ⟨ft,fd.2⟩ hcs fd.1 cZ V
 |nil=>
  cases mode with
  |run=>exact lS (fun y=>lX P true _ cs none y) fun y=>⟨_,_,_,rfl⟩
  |panicking chain=>
   by_cases hc:(Frame.catches P ⟨fn,tmps,todo,[],.panicking chain,kind,roundOf⟩)=true
   ·exact lS (fun y=>lX P true _ cs none y) fun y=>⟨_,_,_,by unfold lX;simp only[hc,if_true];rfl⟩
   ·cases cs with
    |cons c rest=>
     exact qd cZ V (fP ((hcs c (mH ..)).raise chain) fun x hx=>hcs x (eG _ hx)) rfl (fun y=>lX P true _ _ none y) fun y=>by unfold lX;simp only[hc];rfl
    |nil=>
     by_cases hg:(chain.head?.any (·.goexit))=true
     ·exact qd (g:=⟨⟨fn,tmps,todo,[],.panicking chain,kind,roundOf⟩,[],.finished,none,none⟩) cZ V ⟨⟨ft,rfl⟩,by simp,.inr rfl⟩ rfl (fun y=>lX P true _ _ none y) fun y=>by unfold lX;simp only[hc,hg,if_true];rfl
     ·refine EW (fun y=>lX P true _ [] none y) ?_;unfold lX;simp only[hc,hg,if_false,bF];split
      ·exact .inr ⟨_,_,_,rfl,.inl rfl,_,rfl,rfl,T.enters _⟩
      ·exact .inl ⟨_,_,_,rfl⟩
      ·exact .inl ⟨_,_,_,rfl⟩
  |returning=>
   cases hf:P.funcs[fn]? with
   |none=>
    rcases wS T (fr:=⟨fn,tmps,todo,[],.returning,kind,roundOf⟩) ⟨ft,rfl⟩ hcs (tmps.getD 0 undef) with⟨g,hg,hgd,e⟩|e
    ·exact qd cZ V hg hgd (fun y=>lX P true _ cs none y) fun y=>by unfold lX;simp only[hf];exact e y
    ·exact lS (fun y=>lX P true _ cs none y) fun y=>by
      obtain⟨o,e⟩:=e y;exact⟨o,y,#[],by unfold lX;simp only[hf];exact e⟩
   |some fn'=>
    refine yX T (fr:=⟨fn,tmps,todo,[],.returning,kind,roundOf⟩) ⟨ft,rfl⟩ hcs (zm fn' tmps) cZ V (fun y=>lX P true _ cs none y) ⟨?K2,fun y=>?_,?_,?_⟩
    rotate_left
    ·unfold lX;simp only[hf];generalize (results fn' tmps).runT P y #[]=x;exact rfl
    ·intro v es;exact⟨_,gh,fun x=>rfl⟩
    ·intro h x es;cases h<;>exact⟨_,_,rfl⟩
end
section
variable{P:aN}{lw w:ar}
theorem Nb{x:Item}{l:List Item}(h:(x :: l).all iY=true):iY x=true∧l.all iY=true:=by
 simpa only[fE,aS] using h
theorem Oh[uy](T:Quiet P){fr:bP}{cs:List bP}(hfr:dE fr)(hcs : ∀c∈cs,dE c)(cZ:dD lw)(V:jy lw w){l:Nat}(jump:Option Code)(hj:jump.all eb=true)(F:ar→GStep)
  (h : ∃K:Result ak × Array gy→GStep,(∀y,F y=K ((Instr.endRound l jump).runT P y #[]))∧(∀v es,∃es',(∀e∈es' ++ #[],e∈es)∧∀x,K (.ok v x,es)=.after es' (ud P true fr cs none v x))∧(∀h x es,∃o es',K (.halt h x,es)=.ended o x es')) :
  GF P lw (F lw) (fun τ d=>F (cX w τ d)):=yX T hfr hcs (Fu l jump hj) cZ V F h
theorem QM[uy](T:Quiet P){fr:bP}{cs:List bP}(hfr:dE fr)(hcs : ∀c∈cs,dE c)(cZ:dD lw)(V:jy lw w) :
  GF P lw (fG P true fr cs none lw) (fun τ d=>fG P true fr cs none (cX w τ d)):=by
 cases ho:fr.oper? with
 |none=>exact lS (fun y=>fG P true fr cs none y) fun y=>⟨_,_,_,by unfold fG;rw[ho]⟩
 |some o=>
  have hoo:zV o=true:=by
   unfold Frame.oper? at ho;split at ho
   ·rename_i ops i rest k e;have:=hfr.todo;rw[e] at this;have h1:=(Nb this).1;simp only[iY,Array.all_eq_true] at h1;obtain⟨hi,rfl⟩:=aj.1 ho;exact h1 i hi
   ·cases ho
  have gen : ∀y,(∀c l,fr.roundOf=some l→o.op≠.defer c)→fG P true fr cs none y=eE P true fr cs none (execOp fr.eval o) y:=fun y hn=>by
   unfold fG;rw[ho];cases hr:fr.roundOf with
   |none=>rfl
   |some l=>
    dsimp only;split
    ·rename_i e1 e2;exact absurd e2 (hn _ _ hr)
    ·rfl
  by_cases hd : ∃c l,fr.roundOf=some l∧o.op=.defer c
  ·obtain⟨c,l,hr,hop⟩:=hd
   have e : ∀y,fG P true fr cs none y=eE P true fr cs none (do Instr.deferInRound l (←resolve fr.eval c o.type);pure .skip) y:=fun y=>by
    unfold fG;rw[ho];simp only[hr,hop]
   simp only[e];refine vZ T hfr hcs ?_ cZ V
   have hc:Hg c=true:=by
    unfold zV at hoo;rw[hop] at hoo;exact hoo
   exact eT (lV _ _ _ hc) fun d hd=>aP (zo l d hd) fun _=>trivial
  ·have hn : ∀c l,fr.roundOf=some l→o.op≠.defer c:=fun c l h1 h2=>hd ⟨c,l,h1,h2⟩;simp only[fun y=>gen y hn];exact vZ T hfr hcs (KE T.toSC _ _ hoo) cZ V
theorem N5[uy]{s:GStep}{f}(h:GF P lw s f){es:Array gy}(he : ∀e∈es,AL lw.heap.size e):GF P lw (AX es s) (fun τ d=>AX es (f τ d)):=by
 cases s with
 |ended=>trivial
 |spawn=>trivial
 |go g' eM es'=>
  rcases h with h|⟨hg,hgd,w',k,hb,hf⟩
  ·exact .inl h
  ·refine .inr ⟨hg,hgd,w',k,⟨hb.tape,hb.drawn,hb.grows,hb.ok,fun e hx=>?_,hb.tG⟩,fun τ d ha=>by dsimp only;rw[hf τ d ha];rfl⟩;rcases FI.1 hx with hx|hx
   ·exact(he e hx).mono hb.grows
   ·exact hb.evs e hx
 |comm g' cs b sh eM es'=>
  obtain⟨hg,hd,w',k,hb,hf⟩:=h;refine⟨hg,hd,w',k,⟨hb.tape,hb.drawn,hb.grows,hb.ok,fun e hx=>?_,hb.tG⟩,fun τ d ha=>by dsimp only;rw[hf τ d ha];rfl⟩;rcases FI.1 hx with hx|hx
  ·exact(he e hx).mono hb.grows
  ·exact hb.evs e hx
 |_=>exact h.elim
theorem wa{a b:Nat}{τ τ':Nat→dG→Nat}{d d':Nat}(h:Agree (a+b) τ d τ' d'):Agree a τ d τ' d'∧Agree b τ (d+a) τ' (d'+a):=
 ⟨h.le (by omega),fun i hi=>by have:=h (a+i) (by omega);rwa [←nD,←nD] at this⟩
theorem N4[uy]{eM:ar}{s:GStep}{f f'}{n:Nat}(h:GF P eM s f')(ht:eM.tape=lw.tape)(hd:eM.drawn=lw.drawn+n)(hs:lw.heap.size≤eM.heap.size)
  (hf : ∀τ d,Agree n lw.tape lw.drawn τ d→f τ d=f' τ (d+n)):GF P lw s f:=by
 cases s with
 |ended=>trivial
 |spawn=>trivial
 |go g' Wy es'=>
  rcases h with h|⟨hg,hgd,w',k,hb,hf'⟩
  ·exact .inl h
  ·refine .inr ⟨hg,hgd,w',n+k,⟨hb.tape.trans ht,by rw[hb.drawn,hd];omega,bq hs hb.grows,hb.ok,hb.evs,hb.tG⟩,fun τ d ha=>?_⟩;obtain⟨h1,h2⟩:=wa ha;rw[hf τ d h1,hf' τ (d+n) (by rw[ht,hd];exact h2),nD]
 |comm g' cs b sh Wy es'=>
  obtain⟨hg,K5,w',k,hb,hf'⟩:=h;refine⟨hg,K5,w',n+k,⟨hb.tape.trans ht,by rw[hb.drawn,hd];omega,bq hs hb.grows,hb.ok,hb.evs,hb.tG⟩,fun τ d ha=>?_⟩;obtain⟨h1,h2⟩:=wa ha;rw[hf τ d h1,hf' τ (d+n) (by rw[ht,hd];exact h2),nD]
 |_=>exact h.elim
theorem RX[uy](T:Quiet P){fr:bP}{cs:List bP}(hfr:dE fr)(hcs : ∀c∈cs,dE c)(cZ:dD lw)(V:jy lw w) :
  GF P lw (cg P true true fr cs none lw) (fun τ d=>cg P true true fr cs none (cX w τ d)):=by
 have hfr0:=hfr;obtain⟨ft,fd⟩:=hfr;obtain⟨fn,tmps,todo,defers,mode,kind,roundOf⟩:=fr;simp only at ft fd
 have leave : ∀(jump:Option Code),jump.all eb=true→∀F:ar→GStep,(∀y,F y=(match (generalizing:=false) roundOf with
   |none=>if jump matches none|some .ret then .go { frame:={ fn:=fn,tmps:=tmps,todo:=todo,defers:=defers,mode:=.returning,kind:=kind,roundOf:=roundOf },callers:=cs,status:=.running,dying:=none } y
     else .ended (.stuck "exit, goto: no such block or label" (Frame.pos P ⟨fn,tmps,todo,defers,mode,kind,roundOf⟩)) y
   |some l=>
    let (r,es):=(Instr.endRound l jump).runT P y #[]
    AX (seen P fn es) <| match r with
    |.ok v w=>ud P true ⟨fn,tmps,todo,defers,mode,kind,roundOf⟩ cs none v w
    |.halt _ w=>.ended (.stuck "range over a function: no such loop" (Frame.pos P ⟨fn,tmps,todo,defers,mode,kind,roundOf⟩)) w))→
   GF P lw (F lw) (fun τ d=>F (cX w τ d)):=by
  intro jump hj F hF;cases roundOf with
  |none=>
   by_cases hm:(match (generalizing:=false) jump with|none|some .ret=>true|_=>false)=true
   ·exact qd cZ V (fP (fr:={ fn:=fn,tmps:=tmps,todo:=todo,defers:=defers,mode:=.returning,kind:=kind,roundOf:=none }) ⟨ft,fd⟩ hcs) rfl F fun y=>(hF y).trans (if_pos hm)
   ·exact lS F fun y=>⟨_,_,_,(hF y).trans (if_neg hm)⟩
  |some l=>
   refine Oh T hfr0 hcs cZ V (l:=l) jump hj F ⟨?K,fun y=>?_,?_,?_⟩
   rotate_left
   ·rw[hF y];dsimp only;generalize (Instr.endRound l jump).runT P y #[]=x;exact rfl
   ·intro v es;exact⟨_,gh,fun x=>rfl⟩
   ·intro h x es;exact⟨_,_,rfl⟩
 have to : ∀(t:List Item),t.all iY=true→∀F:ar→GStep,(∀y,F y=.go { frame:={ fn:=fn,tmps:=tmps,todo:=t,defers:=defers,mode:=mode,kind:=kind,roundOf:=roundOf },callers:=cs,status:=.running,dying:=none } y #[])→
   GF P lw (F lw) (fun τ d=>F (cX w τ d)):=fun t ht F hF=>qd cZ V (fP ⟨ht,fd⟩ hcs) rfl F hF
 have ended : ∀F:ar→GStep,(∀y,∃o y' es,F y=.ended o y' es)→GF P lw (F lw) (fun τ d=>F (cX w τ d)):=fun F hF=>lS F hF;cases todo with
 |nil=>exact leave none rfl (fun y=>cg P true true _ cs none y) fun y=>rfl
 |cons x k=>
  obtain⟨hx,hk⟩:=Nb ft;have cons : ∀(y:Item) (l:List Item),iY y=true→l.all iY=true→(y :: l).all iY=true:=fun y l h1 h2=>by rw[fE,h1,h2];rfl
  cases x with
  |inBlock id=>exact to k hk (fun y=>cg P true true _ cs none y) fun y=>rfl
  |inScope body=>exact to k hk (fun y=>cg P true true _ cs none y) fun y=>rfl
  |inLoop body=>exact to _ (cons (.code body) _ hx (cons (.inLoop body) _ hx hk)) (fun y=>cg P true true _ cs none y) fun y=>rfl
  |inRegion ops l=>
   cases l with
   |nil=>exact to k hk (fun y=>cg P true true _ cs none y) fun y=>rfl
   |cons i rest=>
    by_cases hw:(((ops[i]?).map (Region.wanted · (yielded ops tmps))).getD false)=true
    ·have e : ∀y,cg P true true ⟨fn,tmps,.inRegion ops (i :: rest) :: k,defers,mode,kind,roundOf⟩ cs none y=fG P true ⟨fn,tmps,.inRegion ops (i :: rest) :: k,defers,mode,kind,roundOf⟩ cs none y:=fun y=>if_pos hw;simp only[e];exact QM T hfr0 hcs cZ V
    ·exact qd cZ V (fP (hfr0.finish undef) hcs) rfl (fun y=>cg P true true _ cs none y) fun y=>if_neg hw
  |inRangeFunc l=>exact ended (fun y=>cg P true true _ cs none y) fun y=>⟨_,_,_,rfl⟩
  |endRangeFunc l=>
   refine yg (P:=P) (Iw l) cZ V (fun y=>cg P true true _ cs none y) ⟨?K1,fun y=>?_,?_,?_⟩
   rotate_left
   ·unfold cg;dsimp only;generalize (Instr.endLoop l).runT P y #[]=x;exact rfl
   ·intro why x es;exact⟨_,_,rfl⟩
   ·intro r hr;cases r with
    |ok jump=>
     have ht:((jump.map Item.code).toList ++ k).all iY=true:=by
      rw[List.all_append,hk,Bool.and_true];cases jump with
      |none=>rfl
      |some c=>
       have:eb c=true:=hr;simp[iY,this]
     exact ly.go (fP (fr:={ fn:=fn,tmps:=tmps,todo:=(jump.map Item.code).toList ++ k,defers:=defers,mode:=mode,kind:=kind,roundOf:=roundOf }) ⟨ht,fd⟩ hcs) rfl _ (fun _=>gh) fun y new=>rfl
    |error h=>
     cases h with
     |panic v=>exact ly.go (fP (hfr0.raise _) hcs) rfl _ (fun _=>gh) fun y new=>rfl
     |_=>exact ly.ended fun x new=>⟨_,_,_,rfl⟩
  |beginRound=>
   refine vZ T hfr0 hcs ?_ cZ V;cases roundOf with
   |none=>exact aP (aY (Q:=Any)) fun _=>trivial
   |some l=>exact aP (Cg l) fun _=>trivial
  |call d a b c=>exact absurd hx (by simp[iY])
  |extern r a=>exact absurd hx (by simp[iY])
  |code c=>
   have hc:eb c=true:=hx;cases c with
   |ret=>exact leave (some .ret) rfl (fun y=>cg P true true _ cs none y) fun y=>rfl
   |skip=>exact to k hk (fun y=>cg P true true _ cs none y) fun y=>rfl
   |label l=>exact to k hk (fun y=>cg P true true _ cs none y) fun y=>rfl
   |seq a b=>
    simp only[eb,aS] at hc;exact to _ (cons (.code a) _ hc.1 (cons (.code b) _ hc.2 hk)) (fun y=>cg P true true _ cs none y) fun y=>rfl
   |cond c t e=>
    simp only[eb,aS] at hc
    by_cases hb : ∃b,Frame.eval ⟨fn,tmps,.code (.cond c t e) :: k,defers,mode,kind,roundOf⟩ c=.bool b
    ·obtain⟨b,hb⟩:=hb
     have e : ∀y,cg P true true ⟨fn,tmps,.code (.cond c t e) :: k,defers,mode,kind,roundOf⟩ cs none y=.go { frame:={ fn:=fn,tmps:=tmps,todo:=.code (if b then t else e) :: k,defers:=defers,mode:=mode,kind:=kind,roundOf:=roundOf },callers:=cs,status:=.running,dying:=none } y #[]:=fun y=>by
      unfold cg;simp only[hb]
     exact to _ (cons _ _ (by cases b;exact hc.2;exact hc.1) hk) (fun y=>cg P true true _ cs none y) e
    ·refine ended (fun y=>cg P true true _ cs none y) fun y=>⟨.stuck "cond: bool expected" (Frame.pos P ⟨fn,tmps,.code (.cond c t e) :: k,defers,mode,kind,roundOf⟩),y,#[],?_⟩
     unfold cg;dsimp only;split
     ·rename_i b hb';exact absurd ⟨b,hb'⟩ hb
     ·exact rfl
   |block id body=>exact to _ (cons (.code body) _ hc (cons (.inBlock id) _ rfl hk)) (fun y=>cg P true true _ cs none y) fun y=>rfl
   |loop body=>exact to _ (cons (.code body) _ hc (cons (.inLoop body) _ hc hk)) (fun y=>cg P true true _ cs none y) fun y=>rfl
   |scope body=>exact to _ (cons (.code body) _ hc (cons (.inScope body) _ hc hk)) (fun y=>cg P true true _ cs none y) fun y=>rfl
   |exit id=>
    cases he:exitTo id k with
    |none=>exact leave (some (.exit id)) rfl (fun y=>cg P true true _ cs none y) fun y=>by unfold cg;simp only[he];rfl
    |some k'=>exact to k' (Ai hk he) (fun y=>cg P true true _ cs none y) fun y=>by unfold cg;simp only[he];rfl
   |goto l=>
    cases he:gotoIn l k with
    |none=>exact leave (some (.goto l)) rfl (fun y=>cg P true true _ cs none y) fun y=>by unfold cg;simp only[he];rfl
    |some k'=>exact to k' (Ae hk he) (fun y=>cg P true true _ cs none y) fun y=>by unfold cg;simp only[he];rfl
   |refuse why=>exact ended (fun y=>cg P true true _ cs none y) fun y=>⟨_,_,_,rfl⟩
   |region id ops draw=>
    cases draw with
    |false=>exact to _ (cons (.inRegion ops _) _ hc hk) (fun y=>cg P true true _ cs none y) fun y=>rfl
    |true=>
     have e : ∀y:ar,cg P true true ⟨fn,tmps,.code (.region id ops true) :: k,defers,mode,kind,roundOf⟩ cs none y =
       .go { frame:={ fn:=fn,tmps:=tmps,todo:=.inRegion ops (Region.schedule (P.follows .mixedOrders) ops (y.tape y.drawn (.order fn id))) :: k,defers:=defers,mode:=mode,kind:=kind,roundOf:=roundOf },callers:=cs,status:=.running,dying:=none } { y with drawn:=y.drawn+1 } #[]:=fun y=>rfl
     rw[e lw];refine .inr ⟨fP (fr:={ fn:=fn,tmps:=tmps,todo:=.inRegion ops _ :: k,defers:=defers,mode:=mode,kind:=kind,roundOf:=roundOf }) ⟨cons (.inRegion ops _) _ hc hk,fd⟩ hcs,rfl,w,1,⟨rfl,rfl,ay _,cZ,by simp,⟨V.size,V.os,V.out,V.at_,V.old,V.kept⟩⟩,fun τ d ha=>?_⟩;dsimp only;rw[e];have h0:lw.tape lw.drawn=τ d:=ha 0 (by omega);rw[h0];rfl
   |rangeFunc f params assign body=>
    simp only[eb,aS] at hc
    have Gh : ∀x:bP,Calm P fq (do let d ←resolve x.eval { callee:=.value f,args:=#[.const (.func (.yield (0:Nat)) #[] #[])],argTypes:=#[] } 0;invoke d.target d.args):=fun x=>
     eT (lV _ _ _ rfl) fun d hd=>rq T.toSC _ _ hd
    rcases vW (Eu (P:=P) fn tmps params assign body roundOf hc.1 hc.2) cZ V with⟨why,eM,h⟩|⟨eM,w',n,r,new,h⟩
    ·obtain⟨es,he⟩:=h #[]
     have : ∃o es',cg P true true ⟨fn,tmps,.code (.rangeFunc f params assign body) :: k,defers,mode,kind,roundOf⟩ cs none lw=.ended o eM es':=by
      unfold cg;simp only[he];exact⟨_,_,rfl⟩
     obtain⟨o,es',e⟩:=this;rw[e];trivial
    ·cases r with
     |error hh=>
      have : ∃o es',cg P true true ⟨fn,tmps,.code (.rangeFunc f params assign body) :: k,defers,mode,kind,roundOf⟩ cs none lw=.ended o eM es':=by
       unfold cg;simp only[h.lone #[]];exact⟨_,_,rfl⟩
      obtain⟨o,es',e⟩:=this;rw[e];trivial
     |ok z=>
      obtain⟨l,mark⟩:=z;have hm:mark.all pE=true:=h.res;have adI:dE ⟨fn,tmps,.inRangeFunc l :: k,mark ++ defers,mode,kind,roundOf⟩:=⟨cons (.inRangeFunc l) _ rfl hk,by show(mark ++ defers).all pE=true;rw[List.all_append,hm,fd];rfl⟩
      have key : ∀(y y':ar) (new:Array gy),(Instr.enterLoop fn tmps params assign body roundOf).runT P y #[]=(.ok (l,mark) y',new)→cg P true true ⟨fn,tmps,.code (.rangeFunc f params assign body) :: k,defers,mode,kind,roundOf⟩ cs none y =
        AX (seen P fn new) (eE P true ⟨fn,tmps,.inRangeFunc l :: k,mark ++ defers,mode,kind,roundOf⟩ cs none (do let d ←resolve (Frame.eval ⟨fn,tmps,.inRangeFunc l :: k,mark ++ defers,mode,kind,roundOf⟩) { callee:=.value f,args:=#[.const (.func (.yield l) #[] #[])],argTypes:=#[] } 0;invoke d.target d.args) y'):=fun y y' new e=>by
       rw[cg];dsimp only;rw[e]
      have hl:=h.lone #[];rw[fJ] at hl;rw[key lw eM new hl];have inner:=vZ (lw:=eM) (w:=w') T adI hcs (s:=(do let d ←resolve (Frame.eval ⟨fn,tmps,.inRangeFunc l :: k,mark ++ defers,mode,kind,roundOf⟩) { callee:=.value f,args:=#[.const (.func (.yield l) #[] #[])],argTypes:=#[] } 0;invoke d.target d.args)) (eT (lV _ _ _ rfl) fun d hd=>rq T.toSC _ _ hd) h.ok h.tG;refine N4 (N5 inner (es:=seen P fn new) fun e he=>h.evs e (mem_seen he)) h.tape h.drawn h.grows fun τ d ha=>?_;have hm2:=h.many τ d ha #[];rw[fJ] at hm2;exact key _ _ _ hm2
theorem FU[uy](T:Quiet P){g:aF}(hg:zK g)(hd:g.dying=none)(cZ:dD lw)(V:jy lw w) :
  GF P lw (fK P true g lw) (fun τ d=>fK P true g (cX w τ d)):=by
 obtain⟨fr,cs,st,dy,off⟩:=g;simp only at hd;subst hd;obtain⟨hf,hc,_⟩:=hg;cases hm:fr.mode with
 |run=>
  have e : ∀y,fK P true ⟨fr,cs,st,none,off⟩ y=cg P true true fr cs none y:=fun y=>by unfold fK;simp only[hm]
  simp only[e];exact RX T hf hc cZ V
 |_=>
  have e : ∀y,fK P true ⟨fr,cs,st,none,off⟩ y=lX P true fr cs none y:=fun y=>by unfold fK;simp only[hm]
  simp only[e];exact Lb T hf hc cZ V
end
open Go.Conc
def lQ(gs:Array aF):Prop:=∀g∈gs,g.status≠.blocked
theorem mA{gs:Array aF}(h:lQ gs)(r:Nat)(b:Bool):partners gs r b=[]:=by
 unfold partners;rw[List.flatMap_eq_nil_iff];rintro⟨g,i⟩ hx
 have hg:g∈gs:=by
  have:(g,i)∈gs.toList.zipIdx:=by simpa using hx
  exact Array.mem_toList_iff.1 (List.fst_mem_of_mem_zipIdx this)
 have:=h g hg;dsimp only;split
 ·rename_i e _;exact absurd e this
 ·rfl
theorem FM{gs:Array aF}(h:lQ gs)(w:ar)(c:mU):ways w gs c=ways w #[] c:=by
 unfold ways;simp only[mA h,mA (gs:=#[]) (by intro g hg;simp at hg)]
theorem NV[uy]{lw w:ar}(V:jy lw w)(c:mU):ways w #[] c=ways lw #[] c:=by
 unfold ways;split
 ·rename_i r _;rcases V.at_ r with h|⟨h1,o,h2,h3⟩
  ·rw[h]
  ·rw[h1,h2]
   have : ∀cap buf cl s r tm,o≠.chan cap buf cl s r tm:=by
    intro cap buf cl s r tm e;subst e;cases h3
   cases o<;>first|rfl|exact absurd rfl (this _ _ _ _ _ _)
 ·rfl
theorem Jf(w:ar)(c:mU):ways w #[] c=[]∨ways w #[] c=[.sendClosed]∨ways w #[] c=[.buffer]∨ways w #[] c=[.closed]:=by
 unfold ways;have e : ∀r b,partners #[] r b=[]:=fun r b=>mA (by intro g hg;simp at hg) r b;simp only[e];split
 ·split
  ·split
   ·simp
   ·split<;>simp
  ·split
   ·simp
   ·split<;>simp
  ·simp
 ·simp
theorem NW{w:ar}{c:mU}(h:ways w #[] c≠[]) : ∃r cap buf cl s rc tm,c.chan=.chan (some r)∧w.heap[r]?=some (Obj.chan cap buf cl s rc tm):=by
 unfold ways at h;split at h
 ·rename_i r hr;split at h
  ·rename_i h1 _;exact⟨r,_,_,_,_,_,_,hr,h1⟩
  ·rename_i h1 _;exact⟨r,_,_,_,_,_,_,hr,h1⟩
  ·exact absurd rfl h
 ·exact absurd rfl h
theorem Ln{P:aN}(ready:List (Nat × mU × List Way))(h1 : ∀y∈ready,y.2.2.length=1)(hne:ready≠[])(w:ar) :
  (do
   let a ←zH (.select ready.length);let (k,c,ws):=ready.getD a (0,default,[])
   let b ←zH (.extern "which waiting goroutine is the partner" ws.length)
   pure (k,c,ws.getD b .closed):jO (Nat × mU × Way)).run P w =
  (if ready.length≤1 then .ok ((ready.getD 0 (0,default,[])).1,(ready.getD 0 (0,default,[])).2.1,(ready.getD 0 (0,default,[])).2.2.getD 0 .closed) w
   else .ok ((ready.getD (w.tape w.drawn (.select ready.length) % ready.length) (0,default,[])).1,(ready.getD (w.tape w.drawn (.select ready.length) % ready.length) (0,default,[])).2.1,(ready.getD (w.tape w.drawn (.select ready.length) % ready.length) (0,default,[])).2.2.getD 0 .closed) { w with drawn:=w.drawn+1 }):=by
 have hl:0<ready.length:=cP.2 hne
 have key : ∀a,a<ready.length→(ready.getD a (0,default,[])).2.2.length=1:=fun a ha=>by
  rw[List.getD_eq_getElem?_getD,lZ ha];exact h1 _ (cz ha)
 by_cases hn:ready.length≤1
 ·rw[if_pos hn];have:=key 0 hl;simp only[zH,bind,Sem.bind,Sem.run,Question.forced,hn,decide_true,if_true,this];simp[pure,Sem.run]
 ·rw[if_neg hn];have:=key (w.tape w.drawn (.select ready.length) % ready.length) (Nat.mod_lt _ hl);simp only[zH,bind,Sem.bind,Sem.run,Question.forced,hn,decide_false,Question.cut];simp only[bF,if_false,this];simp[pure,Sem.run]
def SZ(B:Nat)(op:MemOp):Prop:=op.g=0∧∃r n m,r<B∧(op.act=.send r n∨op.act=.sendDone r n∨op.act=.recv r n m∨op.act=.recvDone r n∨op.act=.recvClosed r)
theorem any_congr{f f':mU→Bool}(h : ∀c,f c=f' c)(cs:Array mU):cs.any f=cs.any f':=by rw[funext h]
theorem ug{rest:Rest}(h:rest.timers = #[])(cs:Array mU)(w:ar):waitingAt rest cs w=some w:=by
 unfold waitingAt
 have:timerAhead rest w.os.mono cs=false:=by
  unfold timerAhead;rw[h];rw[Array.any_eq_false];intro i hi;split<;>simp
 rw[this];rfl
section
variable{P:aN}{lw w:ar}
structure UZ[uy](P:aN)(g:aF)(cs:Array mU)(b:Bool)(sh:CommShape)(lw w:ar)(ops:Array MemOp)(g':aF)(eM w':ar)(k:Nat):Prop where
 gok:zK g'
 dy:g'.dying=none
 run:g'.status=.running
 base:Base lw eM w' k #[]
 lists : ∀op∈ops,SZ lw.heap.size op
 many : ∀(gs:Array aF) (rest:Rest),lQ gs→rest.timers = #[]→∀τ d,Agree k lw.tape lw.drawn τ d→mR P rest gs 0 g cs b sh (cX w τ d)=(.next { world:=cX w' τ (d+k),gs:=gs.setIfInBounds 0 g',rest:=rest },ops)
theorem Ky[uy](T:Quiet P){d0:aF}(hd0:d0.status≠.blocked){rest0:Rest}(HV:rest0.timers = #[])(cZ:dD lw)(V:jy lw w)
  {g:aF} (hg:zK g) (hgd:g.dying=none) (hgr:g.status=.running) {cs:Array mU} {b:Bool} {sh:CommShape} {m':Machine} {ops:Array MemOp} (hl:mR P rest0 #[d0] 0 g cs b sh lw=(.next m',ops)) :
  ∃g' eM,m'={ world:=eM,gs:=#[g'],rest:=rest0 }∧(g'.status=.blocked∨∃w' k,UZ P g cs b sh lw w ops g' eM w' k):=by
 have Vl:lQ #[d0]:=by intro x hx;simp at hx;rw[hx];exact hd0
 have e0 : ∀c,ways lw #[d0] c=ways lw #[] c:=fun c=>FM Vl lw c;have e1 : ∀(gs:Array aF) (qA:lQ gs) τ d c,ways (cX w τ d) gs c=ways lw #[] c:=fun gs qA τ d c=>(FM qA _ c).trans (NV (rV V τ d) c);unfold mR at hl
 extract_lets put illMade me other ready pick at hl
 have hrw : ∀y∈ready,y.2.2.length=1:=by
  intro y hy;obtain⟨h1,h2⟩:=kz.1 hy;obtain⟨⟨c,k⟩,hc,rfl⟩:=List.mem_map.1 h1;dsimp only at h2 ⊢;rcases Jf lw c with h|h|h|h<;>rw[e0,h] at h2 ⊢<;>first|rfl|simp at h2
 split at hl
 ·cases hl
 rename_i Xb;have J2 : ∀(τ:Nat→dG→Nat) (d:Nat) (f:mU→Bool),(∀c,f c=illMade c)→¬cs.any f=true:=fun τ d f hf hc=>Xb ((any_congr (fun c=>(hf c).symm) cs).trans hc)
 by_cases Vf:ready.isEmpty=true
 ·
  have far : ∀(gs:Array aF) (rest:Rest) (qA:lQ gs) (ht:rest.timers = #[]) τ d,mR P rest gs 0 g cs b sh (cX w τ d) =
    if b=true then(.next { world:=cX w τ d,gs:=gs.setIfInBounds 0 { g with status:=.blocked,offers:=some (cs,sh) },rest:=rest },#[])
    else(.next { world:=cX w τ d,gs:=gs.setIfInBounds 0 (g.finishComm P cs sh (-1) undef false),rest:=rest },#[]):=by
   intro gs rest qA ht τ d;unfold mR
   extract_lets put' yK He ready' pick'
   have hr:ready'=ready:=by simp only[ready,ready',e0,e1 gs qA]
   refine(if_neg (J2 τ d _ fun c=>?_)).trans ?_
   ·simp only[illMade,yK];split
    ·rfl
    ·rename_i r _;rcases(rV V τ d).at_ r with h|⟨h1,o,h2,h3⟩
     ·rw[h]
     ·rw[h1,h2];cases o<;>first|rfl|cases h3
    ·rfl
   ·rw[hr,if_pos Vf,ug ht]
  rw[if_pos Vf,ug HV] at hl;cases b with
  |true=>
   simp only[if_true] at hl;cases hl;exact⟨_,_,rfl,.inl rfl⟩
  |false=>
   simp only[bF,if_false,put] at hl;cases hl;exact⟨_,_,rfl,.inr ⟨w,0,⟨⟨hg.frame.finish _,hg.callers,.inl rfl⟩,hgd,rfl,Gw cZ V,by simp,fun gs rest qA ht τ d _=>by rw[far gs rest qA ht];rfl⟩⟩⟩
 ·have hne:ready≠[]:=by simpa using Vf
  have T3 : ∃n y,y∈ready∧pick.run P lw=.ok (y.1,y.2.1,y.2.2.getD 0 .closed) { lw with drawn:=lw.drawn+n }∧∀x:ar,(∀i,i<n→x.tape (x.drawn+i)=lw.tape (lw.drawn+i))→pick.run P x=.ok (y.1,y.2.1,y.2.2.getD 0 .closed) { x with drawn:=x.drawn+n }:=by
   have hr:=fun x=>Ln (P:=P) ready hrw hne x;have hl0:0<ready.length:=cP.2 hne
   have hin : ∀a,a<ready.length→ready.getD a (0,default,[])∈ready:=fun a ha=>by
    rw[List.getD_eq_getElem?_getD,lZ ha];exact cz ha
   by_cases hn:ready.length≤1
   ·refine⟨0,ready.getD 0 (0,default,[]),hin 0 hl0,?_,fun x _=>?_⟩
    ·exact(hr lw).trans (if_pos hn)
    ·exact(hr x).trans (if_pos hn)
   ·refine⟨1,ready.getD (lw.tape lw.drawn (.select ready.length) % ready.length) (0,default,[]),hin _ (Nat.mod_lt _ hl0),?_,fun x hx=>?_⟩
    ·exact(hr lw).trans (if_neg hn)
    ·have h0:x.tape x.drawn=lw.tape lw.drawn:=hx 0 (by omega);refine(hr x).trans ((if_neg hn).trans ?_);rw[h0]
  obtain⟨n,y,hy,hp,Z5⟩:=T3;rw[if_neg Vf,hp] at hl
  have I1:y.2.2=ways lw #[] y.2.1:=by
   obtain⟨h1,_⟩:=kz.1 hy;obtain⟨⟨c,k⟩,hc,rfl⟩:=List.mem_map.1 h1;exact e0 c
  obtain⟨k,c,ws⟩:=y;dsimp only at I1 hl hp Z5
  obtain⟨r,cap,buf,cl,sent,Zg,tm,hcc,hh⟩:=NW (w:=lw) (c:=c) (by
   intro e;have:=hrw _ hy;dsimp only at this;rw[I1,e] at this
   cases this)
  have hh2:w.heap[r]?=some (Obj.chan cap buf cl sent Zg tm):=by
   rcases V.at_ r with h'|⟨h',_⟩
   ·rw[←h'];exact hh
   ·rw[hh] at h';cases h'
  have hb : ∀nv w₁:ar,nv.tape=lw.tape→nv.drawn=lw.drawn+n→nv.heap.size=lw.heap.size→dD nv→jy nv w₁→Base lw nv w₁ n #[]:=fun nv w₁ h1 h2 h3 h4 h5=>⟨h1,h2,by omega,h4,by simp,h5⟩
  have hgf : ∀k v o,zK (g.finishComm P cs sh k v o):=fun k v o=>⟨hg.frame.finish _,hg.callers,.inl rfl⟩
  simp only[hcc,hh] at hl;rcases Jf lw c with hw|hw|hw|hw
  ·exfalso;have:=hrw _ hy;dsimp only at this;rw[I1,hw] at this;cases this
  ·
   have hw1:ws.getD 0 .closed=.sendClosed:=by rw[I1,hw];rfl
   rw[hw1] at hl;dsimp only at hl;have V1:jy { lw with drawn:=lw.drawn+n } w:=⟨V.size,V.os,V.out,V.at_,V.old,V.kept⟩
   rcases vW (cH (P:=P) (.plain "send on closed channel")) (lw:={ lw with drawn:=lw.drawn+n }) (w:=w) cZ V1 with⟨why,eM,h⟩|⟨eM,w',n2,r2,new,h⟩
   ·obtain⟨es',he⟩:=h #[]
    have:(eL (.plain "send on closed channel"):jO Unit).run P { lw with drawn:=lw.drawn+n }=.halt (.stuck why) eM:=by
     have e:=congrArg Prod.fst he;rwa [Sem.runT_eq] at e
    rw[this] at hl;cases hl
   ·have h1:(eL (.plain "send on closed channel"):jO Unit).run P { lw with drawn:=lw.drawn+n }=zX r2 eM:=by
     have e:=congrArg Prod.fst (h.lone #[]);rwa [Sem.runT_eq] at e
    rw[h1] at hl;cases r2 with
    |ok u=>cases hl
    |error hh0=>
     cases hh0 with
     |panic v=>
      simp only[zX,put] at hl;cases hl;refine⟨_,_,rfl,.inr ⟨w',n+n2,⟨hg.frame.raise _,hg.callers,hg.status⟩,hgd,?_,⟨h.tape,by rw[h.drawn];simp only[];omega,h.grows,h.ok,by simp,h.tG⟩,by simp,fun gs rest qA ht τ d ha=>?_⟩⟩
      ·exact hgr
      ·obtain⟨ha,ha2⟩:=wa ha
       have h2:(eL (.plain "send on closed channel"):jO Unit).run P (cX w τ (d+n))=.halt (.panic v) (cX w' τ (d+n+n2)):=by
        have e:=congrArg Prod.fst (h.many τ (d+n) ha2 #[]);rwa [Sem.runT_eq] at e
       unfold mR
       extract_lets put' yK He ready' pick'
       have hr:ready'=ready:=by simp only[ready,ready',e0,e1 gs qA]
       refine(if_neg (J2 τ d _ fun c=>?_)).trans ?_
       ·simp only[illMade,yK];split
        ·rfl
        ·rename_i r _;rcases(rV V τ d).at_ r with h|⟨h1,o,h2,h3⟩
         ·rw[h]
         ·rw[h1,h2];cases o<;>first|rfl|cases h3
        ·rfl
       rw[hr,if_neg Vf]
       have hp':pick'.run P (cX w τ d)=.ok (k,c,ws.getD 0 .closed) (cX w τ (d+n)):=by
        have:pick'=pick:=by simp only[pick,pick',hr]
        rw[this];exact Z5 (cX w τ d) fun i hi=>(ha i hi).symm
       rw[hp',hw1];simp only[hcc,oK,hh2];simp only[h2,nD];rfl
     |_=>cases hl
  ·have hw1:ws.getD 0 .closed=.buffer:=by rw[I1,hw];rfl
   rw[hw1] at hl;cases hsend:c.send with
   |some v=>
    simp only[hsend,put] at hl;cases hl;refine⟨_,_,rfl,.inr ⟨{ w with heap:=w.heap.setIfInBounds r _ },n,hgf ..,hgd,rfl,hb _ _ rfl rfl (by simp) (xD (w:={ lw with drawn:=lw.drawn+n }) cZ rfl) (ye (lw:={ lw with drawn:=lw.drawn+n }) ⟨V.size,V.os,V.out,V.at_,V.old,V.kept⟩ _ _ rfl),?_,fun gs rest qA ht τ d ha=>?_⟩⟩
    ·intro op hop;simp only[fB,cC,eR,or_false] at hop;rcases hop with rfl|rfl<;>exact⟨rfl,r,sent,0,eY hh,by simp[me]⟩
    ·unfold mR
     extract_lets put' yK He ready' pick'
     have hr:ready'=ready:=by simp only[ready,ready',e0,e1 gs qA]
     refine(if_neg (J2 τ d _ fun c=>?_)).trans ?_
     ·simp only[illMade,yK];split
      ·rfl
      ·rename_i r _;rcases(rV V τ d).at_ r with h|⟨h1,o,h2,h3⟩
       ·rw[h]
       ·rw[h1,h2];cases o<;>first|rfl|cases h3
      ·rfl
     rw[hr,if_neg Vf]
     have hp':pick'.run P (cX w τ d)=.ok (k,c,ws.getD 0 .closed) (cX w τ (d+n)):=by
      have:pick'=pick:=by simp only[pick,pick',hr]
      rw[this];exact Z5 (cX w τ d) fun i hi=>(ha i hi).symm
     rw[hp',hw1];simp only[hcc,oK,hh2];simp only[hsend];rfl
   |none=>
    simp only[mA Vl] at hl;simp only[hsend,put] at hl;cases hl;refine⟨_,_,rfl,.inr ⟨{ w with heap:=w.heap.setIfInBounds r _ },n,hgf ..,hgd,rfl,hb _ _ rfl rfl (by simp) (xD (w:={ lw with drawn:=lw.drawn+n }) cZ rfl) (ye (lw:={ lw with drawn:=lw.drawn+n }) ⟨V.size,V.os,V.out,V.at_,V.old,V.kept⟩ _ _ rfl),?_,fun gs rest qA ht τ d ha=>?_⟩⟩
    ·intro op hop;simp only[fB,cC,eR,or_false] at hop;rcases hop with rfl|rfl<;>exact⟨rfl,r,Zg,cap,eY hh,by simp[me]⟩
    ·unfold mR
     extract_lets put' yK He ready' pick'
     have hr:ready'=ready:=by simp only[ready,ready',e0,e1 gs qA]
     refine(if_neg (J2 τ d _ fun c=>?_)).trans ?_
     ·simp only[illMade,yK];split
      ·rfl
      ·rename_i r _;rcases(rV V τ d).at_ r with h|⟨h1,o,h2,h3⟩
       ·rw[h]
       ·rw[h1,h2];cases o<;>first|rfl|cases h3
      ·rfl
     rw[hr,if_neg Vf]
     have hp':pick'.run P (cX w τ d)=.ok (k,c,ws.getD 0 .closed) (cX w τ (d+n)):=by
      have:pick'=pick:=by simp only[pick,pick',hr]
      rw[this];exact Z5 (cX w τ d) fun i hi=>(ha i hi).symm
     rw[hp',hw1];simp only[hcc,oK,hh2];simp only[hsend,mA qA];rfl
  ·have hw1:ws.getD 0 .closed=.closed:=by rw[I1,hw];rfl
   rw[hw1] at hl;dsimp only at hl;simp only[put] at hl;cases hl;refine⟨_,_,rfl,.inr ⟨w,n,hgf ..,hgd,rfl,hb _ _ rfl rfl rfl cZ ⟨V.size,V.os,V.out,V.at_,V.old,V.kept⟩,?_,fun gs rest qA ht τ d ha=>?_⟩⟩
   ·intro op hop;simp only[fB,cC,eR,or_false] at hop;subst hop;exact⟨rfl,r,0,0,eY hh,by simp[me]⟩
   ·unfold mR
    extract_lets put' yK He ready' pick'
    have hr:ready'=ready:=by simp only[ready,ready',e0,e1 gs qA]
    refine(if_neg (J2 τ d _ fun c=>?_)).trans ?_
    ·simp only[illMade,yK];split
     ·rfl
     ·rename_i r _;rcases(rV V τ d).at_ r with h|⟨h1,o,h2,h3⟩
      ·rw[h]
      ·rw[h1,h2];cases o<;>first|rfl|cases h3
     ·rfl
    rw[hr,if_neg Vf]
    have hp':pick'.run P (cX w τ d)=.ok (k,c,ws.getD 0 .closed) (cX w τ (d+n)):=by
     have:pick'=pick:=by simp only[pick,pick',hr]
     rw[this];exact Z5 (cX w τ d) fun i hi=>(ha i hi).symm
    rw[hp',hw1];simp only[hcc,oK,hh2];rfl
end
def wX(B:Nat)(ops:Array MemOp):Prop:=∀op∈ops,op.g=0∧op.act.low B∧op.act≠.mark .disable∧op.act≠.mark .enable
theorem wX.app{B:Nat}{a b:Array MemOp}(ha:wX B a)(hb:wX B b):wX B (a ++ b):=fun op h=>(FI.1 h).elim (ha op) (hb op)
theorem tM{B:Nat}{es:Array gy}(h : ∀e∈es,AL B e)(fn:eD)(pos:String):wX B (iL 0 fn pos es):=fun op hop=>by
 obtain⟨e,he,rfl⟩:=AY hop;obtain⟨loc,wr,sy⟩:=e;refine⟨rfl,?_⟩;rcases h _ he with⟨a,rfl,ha⟩|⟨r,rfl,hr⟩|rfl|rfl|⟨f,rfl⟩
 ·exact⟨ha,by simp[gq],by simp[gq]⟩
 ·cases wr<;>cases sy<;>exact⟨hr,by simp[gq],by simp[gq]⟩
 ·exact⟨trivial,by simp[gq],by simp[gq]⟩
 ·exact⟨trivial,by simp[gq],by simp[gq]⟩
 ·exact⟨trivial,by simp[gq],by simp[gq]⟩
theorem LD{B B':Nat}(hB:B≤B'){ops:Array MemOp}(h : ∀op∈ops,SZ B op):wX B' ops:=fun op hop=>by
 obtain⟨hg,r,n,m,hr,ho⟩:=h op hop;refine⟨hg,?_⟩;rcases ho with e|e|e|e|e<;>rw[e]<;>exact⟨bE hr hB,by simp,by simp⟩
theorem yZ{B:Nat}{ops:Array MemOp}(h:wX B ops)(t:Trace)(g:Nat):Deaf (t ++ ops) g=Deaf t g:=by
 obtain⟨l⟩:=ops;rw[Deaf_append]
 have : ∀(l:List MemOp),(∀op∈l,op.act≠.mark .disable∧op.act≠.mark .enable)→∀d,l.foldl (deafStep g) d=d:=by
  intro l
  induction l with
  |nil=>intro _ d;rfl
  |cons y l ih=>
   intro hl d;rw[List.foldl_cons]
   have:deafStep g d y=d:=by
    have hy:=hl y (mH ..);unfold deafStep;split
    ·rename_i e;exact absurd e hy.1
    ·rename_i e;exact absurd e hy.2
    ·rfl
   rw[this];exact ih (fun op hop=>hl op (eG _ hop)) d
 exact this l (fun op hop=>⟨(h op (by simpa using hop)).2.2.1,(h op (by simpa using hop)).2.2.2⟩) _
section
variable{P:aN}
theorem runT_crowd_comm{gs:Array aF}{w w':ar}{sl:Option (Nat × Nat)}{i:Nat}{g g':aF}{cs:Array mU}{b:Bool}{sh:CommShape}{es:Array gy}(hi:gs[i]?=some g)(h:fK P (i==0) g w=.comm g' cs b sh w' es) :
  runT P (qT gs w sl) i=((mR P { timers:=#[],alone:=none,slice:=sl } (gs.setIfInBounds i { (default:aF) with status:=.finished }) i g' cs b sh w').1,
   iL i g.frame.fn g.frame.place es ++ (mR P { timers:=#[],alone:=none,slice:=sl } (gs.setIfInBounds i { (default:aF) with status:=.finished }) i g' cs b sh w').2):=by
 obtain⟨hlt,rfl⟩:=aj.1 hi;have hsw:=swapAt_of_lt hlt { (default:aF) with status:=.finished };have uB:gs.set i { (default:aF) with status:=.finished }=gs.setIfInBounds i { (default:aF) with status:=.finished }:=by simp[Array.setIfInBounds,hlt]
 show runT P { world:=w,gs:=gs,rest:={ timers:=#[],alone:=none,slice:=sl } } i=_;unfold runT;simp only[hsw,h,GStep.es,uB]
def Idle(gs:Array aF):Prop:=∀(i:Nat) (x:aF),0<i→gs[i]?=some x→x.status=.running∨x.status=.finished
theorem MK{w:ar}{o:aF}(h:o.status=.running∨o.status=.finished):o.again w=o:=by
 unfold Goroutine.again;rcases h with h|h<;>rw[h]
theorem K9{gs:Array aF}(h:Idle gs)(g g':aF)(w':ar):(gs.map (woken P g g' w')).setIfInBounds 0 g'=gs.setIfInBounds 0 g':=by
 apply Array.ext_getElem?;intro j
 by_cases hj:0=j
 ·subst hj;simp only[bD,Array.size_map,if_true]
 ·simp only[aD hj,km];cases hx:gs[j]? with
  |none=>rfl
  |some x=>
   simp only[ej];unfold woken;split
   ·rw[MK (h j x (by omega) hx)]
   ·rfl
def ry(P:aN)(g:aF)(W:ar)(g':aF)(W':ar):Prop:=
 g.status=.running∧g.dying=none∧(∃ops,stepT P (wH g W)=(.next (wH g' W'),ops))∧g'.status=.running∧g'.dying=none
theorem oH{a b:aF}{w w':ar}(h:wH a w=wH b w'):a=b∧w=w':=by
 unfold wH at h;injection h with h1 h2 h3
 exact⟨by simpa using h2,h1⟩
theorem Jn(gs:Array aF)(x y:aF):(gs.setIfInBounds 0 x).setIfInBounds 0 y=gs.setIfInBounds 0 y:=by
 apply Array.ext_getElem?;intro j
 by_cases hj:0=j
 ·subst hj;simp[bD]
 ·simp[aD hj]
theorem Bq[uy](T:Quiet P){lw w:ar}{g g':aF}{eM:ar}(hg:zK g)(cZ:dD lw)(V:jy lw w)(h:ry P g lw g' eM) :
  zK g'∧∃w' k ops,Base lw eM w' k #[]∧wX eM.heap.size ops∧
   ∀τ d gs sl,Agree k lw.tape lw.drawn τ d→gs[0]?=some g→Idle gs→runT P (qT gs (cX w τ d) sl) 0=(.next (qT (gs.setIfInBounds 0 g') (cX w' τ (d+k)) sl),ops):=by
 obtain⟨hr,hd,⟨ops,hs⟩,hr',K5⟩:=h;have Aa:=FU T hg hd cZ V;rw[stepT_solo hr,nC] at hs;have Mf:(#[g]:Array aF)[0]?=some g:=rfl;cases qA:fK P true g lw with
 |go g1 jX es=>
  rw[qA] at Aa;have e:=Co (P:=P) (gs:=#[g]) (w:=lw) (sl:=none) (i:=0) Mf qA;rw[e] at hs;injection hs with hs1 hs2
  injection hs1 with hs3
  have:(#[g].map (woken P g g1 jX)).setIfInBounds 0 g1 = #[g1]:=by simp
  rw[this,←nC] at hs3;obtain⟨rfl,rfl⟩:=oH hs3;rcases Aa with hdy|⟨CJ,_,w',k,hb,hm⟩
  ·obtain⟨_,dd,he,_⟩:=hdy;rw[K5] at he;cases he
  ·refine⟨CJ,w',k,_,⟨hb.tape,hb.drawn,hb.grows,hb.ok,by simp,hb.tG⟩,tM hb.evs g.frame.fn g.frame.place,fun τ d gs sl ha h0 hi=>?_⟩;rw[Co (P:=P) (sl:=sl) (i:=0) h0 (hm τ d ha),K9 hi]
 |comm g1 cs b sh jX es=>
  rw[qA] at Aa;obtain⟨CJ,⟨hgd,Xi⟩,w1,k1,hb,hm⟩:=Aa;have e:=runT_crowd_comm (P:=P) (gs:=#[g]) (w:=lw) (sl:=none) (i:=0) Mf qA;rw[e] at hs;have Xf:(#[g].setIfInBounds 0 { (default:aF) with status:=.finished }) = #[{ (default:aF) with status:=.finished }]:=by simp
  rw[Xf] at hs;generalize hc:mR P { timers:=#[],alone:=none,slice:=none } #[{ (default:aF) with status:=.finished }] 0 g1 cs b sh jX=cc at hs;obtain⟨st,more⟩:=cc;injection hs with hs1 hs2
  dsimp only at hs1;subst hs1
  have key : ∀gs:Array aF,Idle gs→0<gs.size→lQ (gs.setIfInBounds 0 { (default:aF) with status:=.finished }):=by
   intro gs hi h0 x hx;obtain⟨j,hj⟩:=Array.mem_iff_getElem?.1 hx
   by_cases e0:0=j
   ·subst e0;simp only[bD,if_true,h0] at hj;cases hj;simp
   ·rw[aD e0] at hj;rcases hi j x (by omega) hj with h|h<;>rw[h]<;>simp
  have Vl:({ (default:aF) with status:=.finished }:aF).status≠.blocked:=by simp
  obtain⟨g2,Wy,e2,D5⟩:=Ky T Vl (rest0:={ timers:=#[],alone:=none,slice:=none }) rfl hb.ok hb.tG CJ hgd Xi hc;have e3:wH g' eM=wH g2 Wy:=e2;obtain⟨rfl,rfl⟩:=oH e3;rcases D5 with hblk|⟨w2,k2,hcr⟩
  ·rw[hr'] at hblk;cases hblk
  refine⟨hcr.gok,w2,k1+k2,iL 0 g.frame.fn g.frame.place es ++ more,⟨hcr.base.tape.trans hb.tape,by rw[hcr.base.drawn,hb.drawn];omega,bq hb.grows hcr.base.grows,hcr.base.ok,by simp,hcr.base.tG⟩,
   (tM (fun e he=>(hb.evs e he).mono hcr.base.grows) _ _).app (LD hcr.base.grows hcr.lists),fun τ d gs sl ha h0 hi=>?_⟩
  obtain⟨ha1,ha2⟩:=wa ha;have hlt:0<gs.size:=(aj.1 h0).1;have h2:=hcr.many (gs.setIfInBounds 0 { (default:aF) with status:=.finished }) { timers:=#[],alone:=none,slice:=sl } (key gs hi hlt) rfl τ (d+k1) (by rw[hb.tape,hb.drawn];exact ha2);rw[runT_crowd_comm (P:=P) (sl:=sl) (i:=0) h0 (hm τ d ha1),h2,Jn,nD];rfl
 |ended o jX es=>
  have e:=runT_many_ended (P:=P) (gs:=#[g]) (w:=lw) (sl:=none) (i:=0) Mf qA;rw[e] at hs;injection hs with hs1 hs2
  cases hs1
 |spawn g1 c jX es=>
  have e:=runT_crowd_spawn (P:=P) (gs:=#[g]) (w:=lw) (sl:=none) (i:=0) Mf qA;rw[e] at hs;injection hs with hs1 hs2
  injection hs1 with hs3
  have:=congrArg (fun m:Machine=>m.gs.size) hs3;simp[qT,wH] at this
 |_=>rw[qA] at Aa;exact Aa.elim
end
def Ext(W:ar)(τ:Nat→dG→Nat):Prop:=∀i,i<W.drawn→τ i=W.tape i
inductive Bar(P:aN)(Stop:aF→ar→Prop):aF→ar→Prop
 |stop {g:aF} {W:ar}:Stop g W→Bar P Stop g W
 |step {g:aF} {W:ar}:(∀τ,Ext W τ→∃g' W',ry P g (cX W τ W.drawn) g' W')→
   (∀τ,Ext W τ→∀g' W',ry P g (cX W τ W.drawn) g' W'→Bar P Stop g' W')→Bar P Stop g W
section
variable{P:aN}
abbrev Nf:uy:=⟨fun _=>.none⟩
theorem FO(W:ar):@jy Nf W W:=@jy.mk Nf _ _ rfl rfl rfl (fun _=>.inl rfl) (fun _ _ h=>by cases h) (fun _ _ h=>by cases h)
theorem qZ(T:Quiet P){g g':aF}{lw eM:ar}(hg:zK g)(cZ:dD lw)(h:ry P g lw g' eM) :
  zK g'∧dD eM∧eM.tape=lw.tape∧lw.drawn≤eM.drawn∧lw.heap.size≤eM.heap.size∧
   ∀τ d,Agree (eM.drawn - lw.drawn) lw.tape lw.drawn τ d→ry P g (cX lw τ d) g' (cX eM τ (d+(eM.drawn - lw.drawn))):=by
 letI:=Nf
 obtain⟨EP,w',k,ops,hb,E9,hm⟩:=Bq T hg cZ (FO lw) h;obtain⟨hr,hd,⟨ahA,hs⟩,hr',K5⟩:=h
 have Vq:Idle #[g]:=by
  intro i x h1 h2;have:i<1:=by simpa using (aj.1 h2).1
  omega
 have e0:=hm lw.tape lw.drawn #[g] none (fun _ _=>rfl) rfl Vq;have e1:(#[g].setIfInBounds 0 g') = #[g']:=by simp
 have hk:eM.drawn - lw.drawn=k:=by rw[hb.drawn];omega
 have e2:eM=cX w' lw.tape (lw.drawn+k):=by
  rw[stepT_solo hr,nC] at hs;have e3:cX lw lw.tape lw.drawn=lw:=rfl;rw[e3,hs] at e0;injection e0 with e4 e5
  injection e4 with e6
  rw[e1,←nC] at e6;exact(oH e6).2
 refine⟨EP,hb.ok,hb.tape,by rw[hb.drawn];omega,hb.grows,fun τ d ha=>⟨hr,hd,⟨ops,?_⟩,hr',K5⟩⟩;rw[hk] at ha ⊢;rw[stepT_solo hr,nC,hm τ d #[g] none ha rfl Vq,e1,←nC,e2];rfl
theorem Dk : ∀(n:Nat) {g g':aF} {W W':ar},g.dyingOn P→g'.dying=none→runN P n (wH g W)≠.next (wH g' W')
 |0,g,g',W,W',h,hd=>by
  intro e;simp only[runN] at e;injection e with e
  obtain⟨rfl,_⟩:=oH e;obtain⟨_,d,K5,_⟩:=h;rw[hd] at K5;cases K5
 |n+1,g,g',W,W',h,hd=>by
  rcases step_dyingOn (w:=W) h with⟨g1,w1,hs,h'⟩|⟨o,w1,hs,_⟩
  ·have hs':step P (wH g W)=.next (wH g1 w1):=hs
   simp only[runN,hs'];exact Dk n h' hd
  ·have hs':step P (wH g W)=.ended o w1:=hs;simp only[runN,hs'];intro e;cases e
theorem N3{g:aF}{W:ar}(h:g.status=.finished∨g.status=.blocked) : ∃o w',step P (wH g W)=.ended o w':=by
 obtain⟨fr,cs,st,dy,off⟩:=g;simp only at h;rcases h with rfl|rfl
 ·obtain⟨o',w',he,ho⟩:=endWith_ended W 2 (bytes "fatal error: no goroutines (main called runtime.Goexit) - deadlock!\n") (.fatal "no goroutines (main called runtime.Goexit) - deadlock!");refine⟨o',w',?_⟩;simp[step,stepT,move,ask,askOn,wH,runnable_eq,due,ahead,Goroutine.canRun,List.range_succ,pure];rw[he]
 ·obtain⟨o',w',he,ho⟩:=endWith_ended W 2 (bytes "fatal error: all goroutines are asleep - deadlock!\n") (.fatal "all goroutines are asleep - deadlock!");refine⟨o',w',?_⟩;simp[step,stepT,move,ask,askOn,wH,runnable_eq,due,ahead,Goroutine.canRun,List.range_succ,pure];rw[he]
theorem F0{n:Nat}{g g':aF}{W W':ar}(h:g.status=.finished∨g.status=.blocked)(hr:g'.status=.running):runN P n (wH g W)≠.next (wH g' W'):=by
 cases n with
 |zero=>
  intro e;simp only[runN] at e;injection e with e
  obtain⟨rfl,_⟩:=oH e;rw[hr] at h;rcases h with h|h<;>cases h
 |succ n=>
  obtain⟨o,w',e⟩:=N3 (P:=P) (W:=W) h;simp only[runN,e];intro e;cases e
theorem Hr(T:Quiet P){n:Nat}{g g':aF}{W W':ar}(hg:zK g)(cZ:dD W)(hr:g.status=.running)(hd:g.dying=none)(hr':g'.status=.running)(K5:g'.dying=none)
  (h:runN P (n+1) (wH g W)=.next (wH g' W')) : ∃g1 W1,ry P g W g1 W1:=by
 letI:=Nf
 have Aa:=FU T hg hd cZ (FO W);have Mf:(#[g]:Array aF)[0]?=some g:=rfl;have hst:stepT P (wH g W)=runT P (qT #[g] W none) 0:=by rw[stepT_solo hr,nC]
 simp only[runN,step,hst] at h;cases qA:fK P true g W with
 |go g1 W1 es=>
  rw[qA] at Aa;have e:=Co (P:=P) (gs:=#[g]) (w:=W) (sl:=none) (i:=0) Mf qA;have e1:(#[g].map (woken P g g1 W1)).setIfInBounds 0 g1 = #[g1]:=by simp
  have e:runT P (qT #[g] W none) 0=(.next (wH g1 W1),iL 0 g.frame.fn g.frame.place es):=e.trans (by rw[e1,←nC]);rw[e] at h;dsimp only at h;rcases Aa with hdy|⟨CJ,hgd,_⟩
  ·exact absurd h (Dk n hdy K5)
  ·rcases CJ.status with hs|hs
   ·exact⟨g1,W1,hr,hd,⟨_,hst.trans e⟩,hs,hgd⟩
   ·exact absurd h (F0 (.inl hs) hr')
 |comm g1 cs b sh W1 es=>
  rw[qA] at Aa;obtain⟨CJ,⟨hgd,Xi⟩,w1,k1,hb,hm⟩:=Aa;have e:=runT_crowd_comm (P:=P) (gs:=#[g]) (w:=W) (sl:=none) (i:=0) Mf qA;have Xf:(#[g].setIfInBounds 0 { (default:aF) with status:=.finished }) = #[{ (default:aF) with status:=.finished }]:=by simp
  rw[Xf] at e;generalize hc:mR P { timers:=#[],alone:=none,slice:=none } #[{ (default:aF) with status:=.finished }] 0 g1 cs b sh W1=cc at e;obtain⟨st,more⟩:=cc;rw[e] at h;dsimp only at h e;cases st with
  |ended o w2=>cases h
  |next m1=>
   dsimp only at h;obtain⟨g2,W2,e2,D5⟩:=Ky T (d0:={ (default:aF) with status:=.finished }) (by simp) (rest0:={ timers:=#[],alone:=none,slice:=none }) rfl hb.ok hb.tG CJ hgd Xi hc;have e3:m1=wH g2 W2:=e2;subst e3;rcases D5 with hblk|⟨w2,k2,hcr⟩
   ·exact absurd h (F0 (.inr hblk) hr')
   ·exact⟨g2,W2,hr,hd,⟨_,hst.trans e⟩,hcr.run,hcr.dy⟩
 |spawn g1 c W1 es=>
  have e:=runT_crowd_spawn (P:=P) (gs:=#[g]) (w:=W) (sl:=none) (i:=0) Mf qA;rw[e] at h;dsimp only at h
  have h2:runNT P n (qT ((#[g].setIfInBounds 0 g1).push c) W1 none) #[]=(.next (wH g' W'),(runNT P n (qT ((#[g].setIfInBounds 0 g1).push c) W1 none) #[]).2):=by
   have:=runNT_fst P n (qT ((#[g].setIfInBounds 0 g1).push c) W1 none) #[];rw[h] at this;exact Prod.ext this rfl
  have:=runNT_size P n _ _ _ _ h2;simp[qT,wH] at this
 |ended o W1 es=>
  have e:=runT_many_ended (P:=P) (gs:=#[g]) (w:=W) (sl:=none) (i:=0) Mf qA;rw[e] at h;cases h
 |_=>rw[qA] at Aa;exact Aa.elim
theorem least{p:Nat→Prop} : ∀n,p n→∃m,p m∧∀j,j<m→¬p j:=by
 intro n
 induction n using Nat.strongRecOn with
 |ind n ih=>
  intro hn
  by_cases h : ∃m,m<n∧p m
  ·obtain⟨m,h1,h2⟩:=h;exact ih m h1 h2
  ·exact⟨n,hn,fun j hj hp=>h ⟨j,hj,hp⟩⟩
structure Bad(P:aN)(Stop:aF→ar→Prop)(x:aF × ar):Prop where
 no : ¬Bar P Stop x.1 x.2
 gok:zK x.1
 ok:dD x.2
 run:x.1.status=.running
 dy:x.1.dying=none
theorem BR(T:Quiet P){Stop:aF→ar→Prop}(hS : ∀g W τ d,Stop g (cX W τ d)→Stop g W)(hSr : ∀g W,Stop g W→g.status=.running∧g.dying=none)
  {g:aF} {W:ar} (hg:zK g) (cZ:dD W) (hr:g.status=.running) (hd:g.dying=none)
  (H : ∀τ,Ext W τ→∃n g' W',runN P n (wH g (cX W τ W.drawn))=.next (wH g' W')∧Stop g' W'):Bar P Stop g W:=by
 classical
 refine fM fun hno=>?_;let St:={ x:aF × ar // Bad P Stop x }
 let R:St→St→Prop:=fun x y=>∃τ,Ext x.1.2 τ∧ry P x.1.1 (cX x.1.2 τ x.1.2.drawn) y.1.1 y.1.2;let EM:St→Prop:=fun x=>∃τ,Ext x.1.2 τ∧∀g' W',¬ry P x.1.1 (cX x.1.2 τ x.1.2.drawn) g' W'
 have next : ∀x:St,¬EM x→∃y,R x y:=by
  rintro⟨⟨g,W⟩,hb⟩ hnd;refine fM fun hny=>hb.no (.step (fun τ hτ=>?_) fun τ hτ g' W' hl=>?_)
  ·exact fM fun h=>hnd ⟨τ,hτ,fun g' W' hl=>h ⟨g',W',hl⟩⟩
  ·refine fM fun H7=>hny ?_;obtain⟨h1,h2,_⟩:=qZ T hb.gok (lw:=cX W τ W.drawn) hb.ok hl;exact⟨⟨(g',W'),H7,h1,h2,hl.2.2.2.1,hl.2.2.2.2⟩,τ,hτ,hl⟩
 let f:St→St:=fun x=>if h:EM x then x else Classical.choose (next x h)
 have hf : ∀x,¬EM x→R x (f x):=fun x h=>by
  simp only[f,dif_neg h];exact Classical.choose_spec (next x h)
 let seq:Nat→St:=fun n=>Nat.rec ⟨(g,W),hno,hg,cZ,hr,hd⟩ (fun _ x=>f x) n
 have Nw : ∀x y:St,R x y→x.1.2.drawn≤y.1.2.drawn∧(∀p,p<x.1.2.drawn→y.1.2.tape p=x.1.2.tape p)∧
   ∀T',(∀p,p<y.1.2.drawn→T' p=y.1.2.tape p)→ry P x.1.1 (cX x.1.2 T' x.1.2.drawn) y.1.1 (cX y.1.2 T' y.1.2.drawn):=by
  rintro x y ⟨τ,hτ,hl⟩;obtain⟨_,_,h3,h4,_,h6⟩:=qZ T x.2.gok (lw:=cX x.1.2 τ x.1.2.drawn) x.2.ok hl;simp only[yz,qg] at h3 h4 h6;refine⟨h4,fun p hp=>by rw[h3];exact hτ p hp,fun T' hT'=>?_⟩;have:=h6 T' x.1.2.drawn fun i hi=>by rw[hT' _ (by omega),h3]
  rwa [Nat.add_sub_cancel' h4] at this
 have walk : ∀(T':Nat→dG→Nat) (n i:Nat),(∀j,j<n→R (seq (i+j)) (seq (i+j+1))∧∀p,p<(seq (i+j+1)).1.2.drawn→T' p=(seq (i+j+1)).1.2.tape p)→
   runN P n (wH (seq i).1.1 (cX (seq i).1.2 T' (seq i).1.2.drawn))=.next (wH (seq (i+n)).1.1 (cX (seq (i+n)).1.2 T' (seq (i+n)).1.2.drawn)):=by
  intro T' n
  induction n with
  |zero=>intro i _;rfl
  |succ n ih=>
   intro i h;obtain⟨h1,h2⟩:=h 0 (by omega);obtain⟨_,_,hT⟩:=Nw _ _ h1;obtain⟨_,_,⟨ops,hs⟩,_⟩:=hT T' h2
   have hs':step P (wH (seq i).1.1 (cX (seq i).1.2 T' (seq i).1.2.drawn))=.next (wH (seq (i+1)).1.1 (cX (seq (i+1)).1.2 T' (seq (i+1)).1.2.drawn)):=by
    rw[step];exact congrArg Prod.fst hs
   simp only[runN,hs']
   have:=ih (i+1) fun j hj=>by
    have:=h (j+1) (by omega);rwa [show i+(j+1)=i+1+j by omega] at this
   rw[this,show i+1+n=i+(n+1) by omega]
 have mono : ∀i n,(∀j,j<n→R (seq (i+j)) (seq (i+j+1)))→(seq i).1.2.drawn≤(seq (i+n)).1.2.drawn∧∀p,p<(seq i).1.2.drawn→(seq (i+n)).1.2.tape p=(seq i).1.2.tape p:=by
  intro i n
  induction n with
  |zero=>intro _;exact⟨ay _,fun _ _=>rfl⟩
  |succ n ih=>
   intro h;obtain⟨h1,h2⟩:=ih fun j hj=>h j (by omega);obtain⟨h3,h4,_⟩:=Nw _ _ (h n (by omega));exact⟨bq h1 h3,fun p hp=>(h4 p (bE hp h1)).trans (h2 p hp)⟩
 have hseq : ∀j,¬EM (seq j)→R (seq j) (seq (j+1)):=fun j h=>hf _ h;have QT : ∀n T',¬Stop (seq n).1.1 (cX (seq n).1.2 T' (seq n).1.2.drawn):=fun n T' h=>(seq n).2.no (.stop (hS _ _ _ _ h));have aaS : ∀T',(∀p,p<W.drawn→T' p=W.tape p)→∃n g' W',runN P n (wH (seq 0).1.1 (cX (seq 0).1.2 T' (seq 0).1.2.drawn))=.next (wH g' W')∧Stop g' W':=fun T' h=>H T' h
 by_cases Nv : ∃n,EM (seq n)
 ·obtain⟨n0,Vl⟩:=Nv;obtain⟨N,hN,hlt⟩:=least (p:=fun n=>EM (seq n)) n0 Vl;obtain⟨τ,hτ,hnl⟩:=hN;have hR : ∀j,j<N→R (seq j) (seq (j+1)):=fun j hj=>hseq j (hlt j hj)
  have agree : ∀j,j≤N→∀p,p<(seq j).1.2.drawn→τ p=(seq j).1.2.tape p:=by
   intro j hj p hp;have:=mono j (N - j) fun i hi=>hR (j+i) (by omega);rw[Nat.add_sub_cancel' hj] at this;rw[hτ p (bE hp this.1),this.2 p hp]
  have pre : ∀n,n≤N→runN P n (wH (seq 0).1.1 (cX (seq 0).1.2 τ (seq 0).1.2.drawn))=.next (wH (seq n).1.1 (cX (seq n).1.2 τ (seq n).1.2.drawn)):=by
   intro n hn
   have:=walk τ n 0 fun j hj=>by
    rw[eo];exact⟨hR j (by omega),agree (j+1) (by omega)⟩
   rwa [eo] at this
  obtain⟨n,g',W',hrun,Bt⟩:=aaS τ (agree 0 (by omega));rcases Nat.lt_or_ge N n with Cb|hle
  ·obtain⟨m,rfl⟩ : ∃m,n=N+(m+1):=⟨n - N - 1,by omega⟩
   have xu : ∀(a b:Nat) (x y:Machine),runN P a x=.next y→runN P (a+b) x=runN P b y:=by
    intro a
    induction a with
    |zero=>intro b x y h;simp only[runN] at h;injection h with h;rw[h,eo]
    |succ a ih=>
     intro b x y h;rw[show a+1+b=(a+b)+1 by omega];simp only[runN] at h ⊢;cases hs:step P x with
     |next x'=>rw[hs] at h;simp only at h ⊢;exact ih b x' y h
     |ended o w=>rw[hs] at h;cases h
   rw[xu N (m+1) _ _ (pre N (ay _))] at hrun;obtain⟨hr',K5⟩:=hSr _ _ Bt;obtain⟨g1,W1,hl⟩:=Hr T (seq N).2.gok (W:=cX (seq N).1.2 τ (seq N).1.2.drawn) (seq N).2.ok (seq N).2.run (seq N).2.dy hr' K5 hrun;exact hnl _ _ hl
  ·rw[pre n hle] at hrun;injection hrun with hrun
   obtain⟨h1,h2⟩:=oH hrun;rw[←h1,←h2] at Bt;exact QT n τ Bt
 ·have hnd : ∀n,¬EM (seq n):=fun n h=>Nv ⟨n,h⟩;have hR : ∀j,R (seq j) (seq (j+1)):=fun j=>hseq j (hnd j)
  have coh : ∀i j p,i≤j→p<(seq i).1.2.drawn→(seq j).1.2.tape p=(seq i).1.2.tape p:=fun i j p S9 hp=>by
   have:=(mono i (j - i) fun k _=>hR _).2 p hp;rwa [Nat.add_sub_cancel' S9] at this
  let τ:Nat→dG→Nat:=fun p=>if h : ∃j,p<(seq j).1.2.drawn then(seq (Classical.choose h)).1.2.tape p else fun _=>0
  have agree : ∀j p,p<(seq j).1.2.drawn→τ p=(seq j).1.2.tape p:=by
   intro j p hp;have hex : ∃j,p<(seq j).1.2.drawn:=⟨j,hp⟩
   have hc:=Classical.choose_spec hex;simp only[τ,dif_pos hex];rcases Nat.le_total (Classical.choose hex) j with h|h
   ·exact(coh _ _ p h hc).symm
   ·exact coh _ _ p h hp
  obtain⟨n,g',W',hrun,Bt⟩:=aaS τ (agree 0)
  have:=walk τ n 0 fun j hj=>by
   rw[eo];exact⟨hR j,agree (j+1)⟩
  rw[eo] at this;rw[this] at hrun;injection hrun with hrun
  obtain⟨h1,h2⟩:=oH hrun;rw[←h1,←h2] at Bt;exact QT n τ Bt
end
open Go.ConcN (sumTo upd sumTo_upd upd_ne upd_same)
abbrev KR:=Past (fun _=>False)
structure Beside(P:aN)(gs:Array aF)(g:aF)(w:ar)(t:Trace)(q:Nat→Nat):Prop where
 zero:gs[0]?=some g
 old:Leavers P t gs q
 past:KR w.heap.size t
def qN(P:aN)(Q:aF→ar→Prop)(g:aF)(w:ar):Prop:=
 ∀(τ:Nat→dG→Nat) (d:Nat) (gs:Array aF) (sl:Option (Nat × Nat)) (t:Trace) (q:Nat→Nat),Beside P gs g w t q→
  ∃(N:Nat) (gs':Array aF) (g':aF) (w':ar) (d':Nat) (sl':Option (Nat × Nat)) (t':Trace) (q':Nat→Nat),
   runNT P N (qT gs (cX w τ d) sl) t=(.next (qT gs' (cX w' τ d') sl'),t')∧Beside P gs' g' w' t' q'∧Q g' w'
section
variable{P:aN}{Q Q':aF→ar→Prop}{g:aF}{w:ar}
theorem runNT_add(P:aN) : ∀(a b:Nat) (x y:Machine) (t u:Trace),runNT P a x t=(.next y,u)→runNT P (a+b) x t=runNT P b y u
 |0,b,x,y,t,u,h=>by
  simp only[runNT] at h;injection h with h1 h2
  injection h1 with h1
  rw[h1,h2,eo]
 |a+1,b,x,y,t,u,h=>by
  rw[show a+1+b=(a+b)+1 by omega];simp only[runNT] at h ⊢;generalize stepT P x=s at h;obtain⟨r,ops⟩:=s;cases r with
  |next x'=>exact runNT_add P a b x' y _ u h
  |ended o w=>cases h
theorem qN.here(h:Q g w):qN P Q g w:=fun τ d gs sl t q hb=>⟨0,gs,g,w,d,sl,t,q,rfl,hb,h⟩
theorem qN.bind(h:qN P Q g w)(k : ∀g' w',Q g' w'→qN P Q' g' w'):qN P Q' g w:=fun τ d gs sl t q hb=>by
 obtain⟨N,gs1,g1,w1,d1,C5,t1,q1,hr1,hb1,LV⟩:=h τ d gs sl t q hb;obtain⟨M,XK,g2,w2,d2,VS,t2,q2,hr2,hb2,Rm⟩:=k g1 w1 LV τ d1 gs1 C5 t1 q1 hb1;exact⟨N+M,XK,g2,w2,d2,VS,t2,q2,by rw[runNT_add P N M _ _ _ _ hr1,hr2],hb2,Rm⟩
theorem qN.mono(h:qN P Q g w)(k : ∀g' w',Q g' w'→Q' g' w'):qN P Q' g w:=h.bind fun g' w' hq=>.here (k g' w' hq)
theorem Hs{t:Trace}{gs:Array aF}{q:Nat→Nat}(h:Leavers P t gs q):Idle gs:=fun i x hi hx=>(h.old i x hi hx).status
theorem JD{B B':Nat}{t:Trace}{ops:Array MemOp}(h:KR B t)(hB:B≤B')(ho:wX B' ops):KR B' (t ++ ops):=
 (h.mono hB).app0 (fun op hop=>(ho op hop).1) (fun _ _ _ _ hf=>hf.elim) (yZ ho t 0) fun op hop=>(ho op hop).2.1
theorem slip{gs:Array aF}{g:aF}{w:ar}{t:Trace}{q:Nat→Nat}(hb:Beside P gs g w t q)(hrun:g.status=.running){i:Nat}{x:aF}(kG:0<i)(hi:gs[i]?=some x)(hx:x.status=.running)(τ:Nat→dG→Nat)(d:Nat)(sl:Option (Nat × Nat)) :
  ∃gs' ops q',runT P (qT gs (cX w τ d) sl) i=(.next (qT gs' (cX w τ d) sl),ops)∧Beside P gs' g w (t ++ ops) q'∧gs'.size=gs.size∧sumTo gs.size q'<sumTo gs.size q:=by
 have hq:=hb.old.old i x kG hi;have hi0:(i==0)=false:=by simp;omega
 have hlt:i<gs.size:=(aj.1 hi).1;cases WU:q i with
 |zero=>rw[WU] at hq;rw[hq.1] at hx;cases hx
 |succ k=>
  rw[WU] at hq;rcases hq with⟨hf,_⟩|⟨_,g',es,hm,WM,hq'⟩
  ·rw[hf] at hx;cases hx
  have jY:=Co (P:=P) (sl:=sl) (i:=i) hi (by rw[hi0];exact WM (cX w τ d))
  have acV:sumTo gs.size (upd q i k)+(k+1)=sumTo gs.size q+k:=by
   have:=sumTo_upd q k id hlt;simpa [WU] using this
  refine⟨_,_,upd q i k,jY,⟨?_,⟨fun j y hj hy=>?_,fun j hj=>?_⟩,hb.past.mute (by omega) hm⟩,by simp,by omega⟩
  ·have hne:i≠0:=by omega
   rw[aD hne,km,hb.zero];simp[woken_run hrun]
  ·by_cases Ue:i=j
   ·subst Ue;rw[a7 (by simpa using hlt)] at hy;obtain rfl:=bt hy;rw[upd_same,Deaf_own];exact hq'
   ·rw[aD Ue,km] at hy;obtain⟨z,hz,rfl⟩:=eW.1 hy;have hqj:=hb.old.old j z hj hz;rw[woken_quitsD hqj,upd_ne q k (Ne.symm Ue),Deaf_other t Ue _ (fun op hop=>by obtain⟨e,_,rfl⟩:=AY hop;rfl)];exact hqj
  ·rw[Deaf_other t (g':=i) (by simp at hj;omega) _ (fun op hop=>by obtain⟨e,_,rfl⟩:=AY hop;rfl)];exact hb.old.above j (by simpa using hj)
theorem zG{gs:Array aF}{g:aF}{w:ar}{t:Trace}{q:Nat→Nat}(hb:Beside P gs g w t q)(hrun:g.status=.running) : ∀x∈gs,awake x:=by
 intro x hx;obtain⟨i,hi,rfl⟩:=Array.mem_iff_getElem.1 hx;rcases jg i with rfl|kG
 ·have:gs[0]=g:=by simpa [aR hi] using hb.zero
  rw[this];exact awake_of (.inl hrun)
 ·exact awake_of ((hb.old.old i _ kG (aR hi)).status.elim .inl fun x=>.inr (.inr x))
theorem qN.Y5(hrun:g.status=.running)
  (h : ∀(τ:Nat→dG→Nat) (d:Nat) (gs:Array aF) (sl:Option (Nat × Nat)),gs[0]?=some g→Idle gs→
   ∃g' w' k ops,runT P (qT gs (cX w τ d) sl) 0=(.next (qT (gs.setIfInBounds 0 g') (cX w' τ k) sl),ops)∧wX w'.heap.size ops∧w.heap.size≤w'.heap.size∧qN P Q g' w'):qN P Q g w:=by
 intro τ d gs sl t q hb;generalize hM:sumTo gs.size q=M
 induction M using Nat.strongRecOn generalizing d gs sl t q with
 |ind M ih=>
  obtain⟨i,x,d1,C5,hi,hx,hst⟩:=crowd_pick (P:=P) (w:=cX w τ d) (sl:=sl) (zG hb hrun) ⟨0,g,hb.zero,hrun⟩;have ew:(cX w τ d).at d1=cX w τ d1:=rfl;rw[ew] at hst;rcases jg i with rfl|kG
  ·obtain⟨g',w',k,ops,hr,ho,hs,hk⟩:=h τ d1 gs C5 hb.zero (Hs hb.old)
   have hb':Beside P (gs.setIfInBounds 0 g') g' w' (t ++ ops) q:=by
    have hlt:0<gs.size:=(aj.1 hb.zero).1;refine⟨by simp[hlt],⟨fun j y hj hy=>?_,fun j hj=>?_⟩,JD hb.past hs ho⟩
    ·have hne:0≠j:=by omega
     rw[aD hne] at hy;rw[yZ ho];exact hb.old.old j y hj hy
    ·rw[yZ ho];exact hb.old.above j (by simpa using hj)
   obtain⟨N,XK,g2,w2,d2,VS,t2,q2,hr2,hb2,Rm⟩:=hk τ k (gs.setIfInBounds 0 g') C5 (t ++ ops) q hb';exact⟨N+1,XK,g2,w2,d2,VS,t2,q2,by simp only[runNT,hst,hr];exact hr2,hb2,Rm⟩
  ·obtain⟨gs',ops,q',hr,hb',hsz,hlt⟩:=slip hb hrun kG hi hx τ d1 C5;obtain⟨N,XK,g2,w2,d2,VS,t2,q2,hr2,hb2,Rm⟩:=ih (sumTo gs'.size q') (by rw[hsz,←hM];exact hlt) d1 gs' C5 (t ++ ops) q' hb' rfl;exact⟨N+1,XK,g2,w2,d2,VS,t2,q2,by simp only[runNT,hst,hr];exact hr2,hb2,Rm⟩
theorem G7[uy](T:Quiet P){Stop:aF→ar→Prop}{g:aF}{W:ar}(h:Bar P Stop g W):zK g→dD W→∀w,jy W w→
  qN P (fun g' w'=>∃W',Stop g' W'∧jy W' w'∧zK g'∧dD W'∧W.heap.size≤W'.heap.size) g w:=by
 induction h with
 |stop hs=>exact fun hg cZ w V=>.here ⟨_,hs,V,hg,cZ,ay _⟩
 |@step g W live down ih=>
  intro hg cZ w V;obtain⟨_,_,hl0⟩:=live W.tape fun _ _=>rfl;refine .Y5 hl0.1 fun τ d gs sl h0 hi=>?_;let τ':Nat→dG→Nat:=fun p=>if p<W.drawn then W.tape p else τ (d+(p - W.drawn))
  have L8:Ext W τ':=fun i hi=>by simp only[τ',if_pos hi]
  obtain⟨g',W',hl⟩:=live τ' L8;obtain⟨EP,w',k,ops,hb,ho,hm⟩:=Bq T (lw:=cX W τ' W.drawn) hg cZ (w:=w) ⟨V.size,V.os,V.out,V.at_,V.old,V.kept⟩ hl
  have ha:Agree k (cX W τ' W.drawn).tape (cX W τ' W.drawn).drawn τ d:=fun i hi=>by
   simp only[yz,qg,τ',if_neg (show ¬W.drawn+i<W.drawn by omega),Nat.add_sub_cancel_left]
  have hsz:w'.heap.size=W'.heap.size:=hb.tG.size.symm;have hgr:=hb.grows;simp only[oK] at hgr;refine⟨g',w',d+k,ops,hm τ d gs sl ha h0 hi,by rw[hsz];exact ho,by rw[hsz,←V.size];exact hgr,(ih τ' L8 g' W' hl EP hb.ok w' hb.tG).mono ?_⟩;rintro g2 w2 ⟨W2,h1,h2,h3,h4,h5⟩;exact⟨W2,h1,h2,h3,h4,bq hgr h5⟩
end
open Go.ConcN (sumTo upd)
def jo(P:aN)(Q:aF→ar→Prop)(g:aF)(W:ar):Prop:=
 ∀K:uy,zK g→dD W→∀w,jy W w→qN P (fun g' w'=>∃W',Q g' W'∧jy W' w'∧zK g'∧dD W'∧W.heap.size≤W'.heap.size) g w
section
variable{P:aN}{Q Q':aF→ar→Prop}{g:aF}{W:ar}
theorem jo.here(h:Q g W):jo P Q g W:=fun K hg cZ w V=>.here ⟨W,h,V,hg,cZ,ay _⟩
theorem jo.bind(h:jo P Q g W)(k : ∀g' W',W.heap.size≤W'.heap.size→Q g' W'→jo P Q' g' W'):jo P Q' g W:=fun K hg cZ w V=>
 (h K hg cZ w V).bind fun g' w' ⟨W',hq,V',EP,rE,hs⟩=>(k g' W' hs hq K EP rE w' V').mono fun g2 w2 ⟨W2,h1,h2,h3,h4,h5⟩=>⟨W2,h1,h2,h3,h4,bq hs h5⟩
theorem jo.mono(h:jo P Q g W)(k : ∀g' W',W.heap.size≤W'.heap.size→Q g' W'→Q' g' W'):jo P Q' g W:=h.bind fun g' W' hs hq=>.here (k g' W' hs hq)
theorem jo.Oy(h:jo P Q g W)(τ:Nat→dG→Nat)(d:Nat):jo P Q g (cX W τ d):=fun K hg cZ w V=>h K hg cZ w ⟨V.size,V.os,V.out,V.at_,V.old,V.kept⟩
theorem jo.ofT{τ:Nat→dG→Nat}{d:Nat}(h:jo P Q g (cX W τ d)):jo P Q g W:=fun K hg cZ w V=>h K hg cZ w ⟨V.size,V.os,V.out,V.at_,V.old,V.kept⟩
theorem Dg(T:Quiet P)(hr:g.status=.running)(hd:g.dying=none)
  (H : ∀τ,∃n g' W',runN P n (wH g (cX W τ 0))=.next (wH g' W')∧Q g' W'∧g'.status=.running∧g'.dying=none) :
  jo P (fun g' W'=>∃τ d,Q g' (cX W' τ d)) g W:=fun K hg cZ w V=>by
 have hb:Bar P (fun g' W'=>(∃τ d,Q g' (cX W' τ d))∧g'.status=.running∧g'.dying=none) g (cX W W.tape 0):=by
  refine BR T (fun g' W' τ d h=>⟨h.1,h.2⟩) (fun g' W' h=>h.2) hg cZ hr hd fun τ _=>?_;obtain⟨n,g',W',h1,h2,h3,h4⟩:=H τ;exact⟨n,g',W',h1,⟨W'.tape,W'.drawn,h2⟩,h3,h4⟩
 refine(G7 T hb hg cZ w ⟨V.size,V.os,V.out,V.at_,V.old,V.kept⟩).mono ?_;rintro g' w' ⟨W',⟨hq,_⟩,V',EP,rE,hs⟩;exact⟨W',hq,V',EP,rE,hs⟩
theorem Bf(T:Quiet P){fr:bP}{cs:List bP}{Q:bP→ar→Prop}
  (H : ∀τ,∃fr' W',Steps P (lone fr cs (cX W τ 0)) (lone fr' cs W')∧Q fr' W') :
  jo P (fun g' W'=>∃fr' τ d,g'=G fr' cs∧Q fr' (cX W' τ d)) (G fr cs) W:=by
 refine(Dg T (Q:=fun g' W'=>∃fr',g'=G fr' cs∧Q fr' W') rfl rfl fun τ=>?_).mono fun g' W' _ ⟨τ,d,fr',h1,h2⟩=>⟨fr',τ,d,h1,h2⟩
 obtain⟨fr',W',⟨n,hn⟩,hq⟩:=H τ;exact⟨n,G fr' cs,W',hn,⟨fr',rfl,hq⟩,rfl,rfl⟩
def j6(P:aN)(f:eD)(args:Array ak)(W:ar)(R:ak→ar→Prop):Prop:=
 ∀cs,jo P (fun g' W'=>∃fr v τ d,g'=G fr cs∧R v W'∧fr.fn=f∧fr.leaving P (cX W' τ d) (.returned v)) (G (eH P f args .normal) cs) W
theorem j6.mono{f:eD}{args:Array ak}{R R':ak→ar→Prop}(h:j6 P f args W R)(k : ∀v W',W.heap.size≤W'.heap.size→R v W'→R' v W'):j6 P f args W R':=
 fun cs=>(h cs).mono fun g' W' hs ⟨fr,v,τ,d,h1,h2,h3,h4⟩=>⟨fr,v,τ,d,h1,k v W' hs h2,h3,h4⟩
theorem j6.Oy{f:eD}{args:Array ak}{R:ak→ar→Prop}(h:j6 P f args W R)(τ:Nat→dG→Nat)(d:Nat):j6 P f args (cX W τ d) R:=fun cs=>(h cs).Oy τ d
theorem xk(T:Quiet P){g':aF}{τ:Nat→dG→Nat}{d:Nat}(h:ry P g (cX W τ d) g' (cX W τ d)):jo P (fun g2 W2=>g2=g'∧∃τ d,W2=cX W τ d) g W:=fun K hg cZ w V=>by
 obtain⟨_,_,_,_,_,hloc⟩:=qZ T hg (lw:=cX W τ d) cZ h;simp only[qg,Nat.sub_self,Nat.add_zero] at hloc;have hs:=fun τ'=>hloc τ' 0 (fun i hi=>absurd hi (by omega));refine(Dg T (Q:=fun g2 W2=>g2=g'∧∃τ d,W2=cX W τ d) h.1 h.2.1 (fun τ'=>?_)).mono ?_ K hg cZ w V
 ·obtain⟨_,_,⟨ops,e⟩,h3,h4⟩:=hs τ';refine⟨1,g',cX W τ' 0,?_,⟨rfl,τ',0,rfl⟩,h3,h4⟩;simp only[runN,step];have e':stepT P (wH g (cX W τ' 0))=(.next (wH g' (cX W τ' 0)),ops):=e;rw[e']
 ·rintro g2 W2 _ ⟨τ1,d1,h1,τ2,d2,h2⟩;have h3:=congrArg (fun x=>cX x W2.tape W2.drawn) h2;exact⟨h1,W2.tape,W2.drawn,h3⟩
theorem rD{fr fr':bP}{cs cs':List bP}{w w':ar}(h:step P (lone fr cs w)=.next (lone fr' cs' w')):ry P (G fr cs) w (G fr' cs') w':=by
 refine⟨rfl,rfl,?_,rfl,rfl⟩;have h':(stepT P (wH (G fr cs) w)).1=.next (wH (G fr' cs') w'):=h
 exact⟨_,Prod.ext h' rfl⟩
theorem G6(T:Quiet P){fr c:bP}{cs:List bP}{v:ak}{τ:Nat→dG→Nat}{d:Nat}(h:fr.leaving P (cX W τ d) (.returned v)) :
  jo P (fun g' W'=>g'=G (c.finish v) cs∧∃τ d,W'=cX W τ d) (G fr (c :: cs)) W:=
 xk T (rD (step_leave_returned h))
theorem Ed[K:uy](T:Quiet P){f:eD}{args:Array ak}{R:ak→ar→Prop}(hi:P.inits.idxOf? f=none)(h:j6 P f args W R)(hW:dD W){w:ar}(V:jy W w) :
  ∃N last o w' t',runNT P (N+1) (wH (G (eH P f args .normal) []) w) #[]=(.ended o w',t')∧runN P N (wH (G (eH P f args .normal) []) w)=.next last∧
   step P last=.ended o w'∧Conc.Good P (fun v w'=>∃W',R v W'∧jy W' w'∧dD W'∧W.heap.size≤W'.heap.size) last o w' t':=by
 have hg0:zK (G (eH P f args .normal) []):=⟨ou T f args .normal,by simp[G],.inl rfl⟩
 have hb0:Beside P #[G (eH P f args .normal) []] (G (eH P f args .normal) []) w #[] (fun _=>0):=
  ⟨rfl,leavers_one P _,past_nil.mono (by omega)⟩
 obtain⟨N,gs1,g1,w1,d1,C5,t1,q1,hr1,hb1,W1,⟨fr,v,τ1,d2,rfl,hv,hfn,hl⟩,V1,hg1,Ca,hs1⟩:=h [] K hg0 hW w V w.tape w.drawn _ none _ _ hb0
 have last : ∀τ d,∃w2 es,fK P true (G fr []) (cX w1 τ d)=.ended (.done v) (cX w2 τ d) es∧jy W1 w2∧∀e∈es,AL w1.heap.size e:=by
  obtain⟨hm,I2,hk,fn,hf,hres⟩:=hl;have hrun:((results fn fr.tmps).runT P (cX W1 τ1 d2) #[]).1=.ok v (cX W1 τ1 d2):=by rw[Sem.runT_eq];exact hres
  rcases vW (zm (P:=P) fn fr.tmps) (lw:=cX W1 τ1 d2) (w:=w1) Ca ⟨V1.size,V1.os,V1.out,V1.at_,V1.old,V1.kept⟩ with⟨why,eM,hx⟩|⟨eM,w2,k,r,new,hx⟩
  ·obtain⟨es',he⟩:=hx #[];rw[he] at hrun;cases hrun
  ·have h1:=hx.lone #[];rw[h1] at hrun;cases r with
   |error e=>cases hrun
   |ok v'=>
    simp only[zX] at hrun;injection hrun with hv' hw'
    subst hv'
    have hk0:k=0:=by
     have:=hx.drawn;rw[hw'] at this;simp only[qg] at this;omega
    subst hk0;intro τ d;have h2:=hx.many τ d (fun i hi=>absurd hi (by omega)) #[];rw[Nat.add_zero,fJ] at h2;refine⟨w2,seen P fr.fn new ++ #[],?_,?_,fun e he=>?_⟩
    ·obtain⟨fnn,tmps,todo,defers,mode,kind,ro⟩:=fr;simp only at hm I2 hk hf h2 hfn;subst hm I2 hk hfn;unfold fK G;simp only;unfold lX;simp only[hf,h2,zX];unfold ud;simp only[hi];rfl
    ·have:=hx.tG;rw[hw'] at this;exact⟨this.size,this.os,this.out,this.at_,this.old,this.kept⟩
    ·have:=hx.evs e (gh e he);rw[hw'] at this;simp only[oK] at this;rw[←V1.size];exact this
 have fin : ∀M (gs:Array aF) (d:Nat) (sl:Option (Nat × Nat)) (t:Trace) (q:Nat→Nat),sumTo gs.size q=M→Beside P gs (G fr []) w1 t q→
   ∃N last o w' t',runNT P (N+1) (qT gs (cX w1 w.tape d) sl) t=(.ended o w',t')∧runN P N (qT gs (cX w1 w.tape d) sl)=.next last∧step P last=.ended o w'∧
    Conc.Good P (fun v w'=>∃W',R v W'∧jy W' w'∧dD W'∧W.heap.size≤W'.heap.size) last o w' t':=by
  intro M
  induction M using Nat.strongRecOn with
  |ind M ih=>
   intro gs d sl t q hM hb;obtain⟨i,x,d1,C5,hi',hx,hst⟩:=crowd_pick (P:=P) (w:=cX w1 w.tape d) (sl:=sl) (zG hb rfl) ⟨0,_,hb.zero,rfl⟩;have ew:(cX w1 w.tape d).at d1=cX w1 w.tape d1:=rfl;rw[ew] at hst;rcases jg i with rfl|kG
   ·obtain⟨w2,es,hend,hV2,hes⟩:=last w.tape d1;have jY:=runT_many_ended (P:=P) (sl:=C5) (i:=0) hb.zero hend;have E9:=tM hes fr.fn fr.place;have hP:=JD hb.past (ay _) E9;refine⟨0,qT gs (cX w1 w.tape d) sl,.done v,cX w2 w.tape d1,_,by simp only[runNT,hst,jY];rfl,rfl,by simp only[step,hst,jY],v,rfl,⟨W1,hv,⟨hV2.size,hV2.os,hV2.out,hV2.at_,hV2.old,hV2.kept⟩,Ca,hs1⟩,hP.clean,hP.over,⟨fun y hy=>?_,rfl⟩,fun j y hy hj=>?_⟩
    ·obtain⟨j,hj⟩:=List.mem_iff_getElem?.1 hy;rw[List.getElem?_drop] at hj;exact⟨_,(hb.old.old (1+j) y (by omega) (by simpa [qT] using hj)).leaves⟩
    ·have hq:=hb.old.old j y (by omega) hy;refine⟨q j,?_⟩;have e:(t ++ iL 0 fr.fn fr.place es).deaf j (t ++ iL 0 fr.fn fr.place es).size=Deaf t j:=yZ E9 t j;rw[e];exact hq.hears _
   ·obtain⟨gs',ops,q',hr,hb',hsz,hlt⟩:=slip hb rfl kG hi' hx w.tape d1 C5;obtain⟨N,last,o,w',t',h1,h2,h3,h4⟩:=ih (sumTo gs'.size q') (by rw[hsz,←hM];exact hlt) gs' d1 C5 (t ++ ops) q' rfl hb';exact⟨N+1,last,o,w',t',by rw[runNT_succ_next (by rw[hst,hr])];exact h1,by rw[runN_succ_next (by rw[hst,hr])];exact h2,h3,h4⟩
 obtain⟨M,last,o,w',t',h1,h2,h3,h4⟩:=fin _ gs1 d1 C5 t1 q1 rfl hb1;have e0:wH (G (eH P f args .normal) []) w=qT #[G (eH P f args .normal) []] (cX w w.tape w.drawn) none:=rfl;refine⟨N+M,last,o,w',t',?_,?_,h3,h4⟩
 ·rw[e0,show N+M+1=N+(M+1) by omega,runNT_add P N (M+1) _ _ _ _ hr1];exact h1
 ·rw[e0,←runNT_fst P (N+M) _ #[],runNT_add P N M _ _ _ _ hr1,runNT_fst];exact h2
theorem Bz[K:uy](w:ar)(hκ : ∀b x,K.κ b=some x→b<w.heap.size∧∀o,w.heap[b]?=some o→dY o=false→o=x) : ∃W,jy W w∧dD W∧W.tape=w.tape∧W.drawn=w.drawn∧∀(b:Nat) (o:Obj),w.heap[b]?=some o→dY o=true→W.heap[b]?=some o:=by
 refine⟨{ w with heap:=w.heap.map fun o=>if dY o then o else .coro none },⟨by simp,rfl,rfl,fun b=>?_,fun b x h=>by simpa using (hκ b x h).1,fun b x h h1=>?_⟩,fun b o ho=>?_,rfl,rfl,fun b o ho hk=>?_⟩
 ·simp only[km];cases h:w.heap[b]? with
  |none=>exact .inl rfl
  |some o=>
   simp only[ej]
   by_cases hk:dY o=true
   ·rw[if_pos hk];exact .inl rfl
   ·exact .inr ⟨by rw[if_neg hk],o,rfl,by simpa using hk⟩
 ·obtain⟨h2,h3⟩:=hκ b x h;simp only[km,aR h2,ej,Option.some.injEq] at h1;rw[aR h2]
  by_cases hk:dY w.heap[b]=true
  ·rw[if_pos hk] at h1;rw[h1] at hk;cases hk
  ·rw[h3 _ (aR h2) (by simpa using hk)]
 ·simp only[km] at ho;obtain⟨x,hx,rfl⟩:=eW.1 ho
  by_cases hk:dY x=true
  ·rw[if_pos hk];exact .inl hk
  ·rw[if_neg hk];exact .inr rfl
 ·simp only[km,ho,ej,hk,if_true]
end
abbrev Rn:=Nat→Option Nat
def Rn.le(ρ ρ':Rn):Prop:=∀b c,ρ b=some c→ρ' b=some c
theorem Rn.le_refl(ρ:Rn):Rn.le ρ ρ:=fun _ _ h=>h
theorem Rn.le_trans{ρ ρ' ρ'':Rn}(h:Rn.le ρ ρ')(h':Rn.le ρ' ρ''):Rn.le ρ ρ'':=fun b c e=>h' b c (h b c e)
structure AR(ρ:Rn)(a a':dc):Prop where
 block:ρ a.block=some a'.block
 off:a'.off=a.off
 spot:a'.spot=a.spot
theorem AR.mono{ρ ρ':Rn}{a a':dc}(h:AR ρ a a')(hl:Rn.le ρ ρ'):AR ρ' a a':=⟨hl _ _ h.block,h.off,h.spot⟩
theorem AR.add{ρ:Rn}{a a':dc}(h:AR ρ a a')(n:Nat):AR ρ (a.add n) (a'.add n):=by
 unfold Addr.add;split
 ·exact h
 ·exact⟨h.block,by simp[h.off],rfl⟩
theorem AR.at{ρ:Rn}{a a':dc}(h:AR ρ a a')(off:Nat):AR ρ { a with off } { a' with off }:=⟨h.block,rfl,h.spot⟩
inductive VR(F:Nat→Bool)(ρ:Rn):ak→ak→Prop
 |bool (b:Bool):VR F ρ (.bool b) (.bool b)
 |int (k:IntKind) (n:Int):VR F ρ (.int k n) (.int k n)
 |string (s:ByteArray):VR F ρ (.string s) (.string s)
 |B5:VR F ρ (.pointer none) (.pointer none)
 |ptr {a a':dc}:AR ρ a a'→VR F ρ (.pointer (some a)) (.pointer (some a'))
 |DG (l c:Nat):VR F ρ (.slice none l c) (.slice none l c)
 |slice {a a':dc} (l c:Nat):AR ρ a a'→VR F ρ (.slice (some a) l c) (.slice (some a') l c)
 |TM:VR F ρ (.map none) (.map none)
 |map {r r':Nat}:ρ r=some r'→VR F ρ (.map (some r)) (.map (some r'))
 |chan (r:Option Nat):VR F ρ (.chan r) (.chan r)
 |func {f:eD} {fs fs' cs cs':Array ak}:F f=true→fs.size=fs'.size→(∀(i:Nat) (x y:ak),fs[i]?=some x→fs'[i]?=some y→VR F ρ x y)→
   cs.size=cs'.size→(∀(i:Nat) (x y:ak),cs[i]?=some x→cs'[i]?=some y→VR F ρ x y)→VR F ρ (.func (.func f) fs cs) (.func (.func f) fs' cs')
 |TN:VR F ρ .nilFunc .nilFunc
 |agg {cs cs':Array ak}:cs.size=cs'.size→(∀(i:Nat) (x y:ak),cs[i]?=some x→cs'[i]?=some y→VR F ρ x y)→VR F ρ (.agg cs) (.agg cs')
 |tuple {cs cs':Array ak}:cs.size=cs'.size→(∀(i:Nat) (x y:ak),cs[i]?=some x→cs'[i]?=some y→VR F ρ x y)→VR F ρ (.tuple cs) (.tuple cs')
structure iV(F:Nat→Bool)(ρ:Rn)(cs cs':Array ak):Prop where
 size:cs.size=cs'.size
 at_ : ∀(i:Nat) (x y:ak),cs[i]?=some x→cs'[i]?=some y→VR F ρ x y
section
variable{F:Nat→Bool}{ρ ρ':Rn}
theorem VR.mono{v v':ak}(h:VR F ρ v v')(hl:Rn.le ρ ρ'):VR F ρ' v v':=by
 induction h with
 |bool b=>exact .bool b
 |int k n=>exact .int k n
 |string s=>exact .string s
 |B5=>exact .B5
 |ptr h=>exact .ptr (h.mono hl)
 |DG l c=>exact .DG l c
 |slice l c h=>exact .slice l c (h.mono hl)
 |TM=>exact .TM
 |map h=>exact .map (hl _ _ h)
 |chan r=>exact .chan r
 |func hf h1 h2 h3 h4 S5 WG=>exact .func hf h1 S5 h3 WG
 |TN=>exact .TN
 |agg h1 h2 ih=>exact .agg h1 ih
 |tuple h1 h2 ih=>exact .tuple h1 ih
theorem iV.mono{cs cs':Array ak}(h:iV F ρ cs cs')(hl:Rn.le ρ ρ'):iV F ρ' cs cs':=⟨h.size,fun i x y h1 h2=>(h.at_ i x y h1 h2).mono hl⟩
theorem iV.agg{cs cs':Array ak}(h:iV F ρ cs cs'):VR F ρ (.agg cs) (.agg cs'):=.agg h.size h.at_
theorem iV.tuple{cs cs':Array ak}(h:iV F ρ cs cs'):VR F ρ (.tuple cs) (.tuple cs'):=.tuple h.size h.at_
theorem iV.get{cs cs':Array ak}(h:iV F ρ cs cs'){i:Nat}{x:ak}(hx:cs[i]?=some x) : ∃y,cs'[i]?=some y∧VR F ρ x y:=by
 have hi:i<cs.size:=(aj.1 hx).1;have hi':i<cs'.size:=h.size▸hi;exact⟨cs'[i],aR hi',h.at_ i x _ hx (aR hi')⟩
theorem iV.none{cs cs':Array ak}(h:iV F ρ cs cs'){i:Nat}(hx:cs[i]?=none):cs'[i]?=none:=by
 rw[Array.getElem?_eq_none_iff] at hx ⊢;rw[←h.size];exact hx
theorem iV.nil:iV F ρ #[] #[]:=⟨rfl,fun i x y h=>by simp at h⟩
theorem iV.of{n:Nat}{f g:Nat→ak}(h : ∀i,i<n→VR F ρ (f i) (g i)):iV F ρ (Array.ofFn (n:=n) fun i=>f i) (Array.ofFn (n:=n) fun i=>g i):=by
 refine⟨by simp,fun i x y h1 h2=>?_⟩;simp only[Array.getElem?_ofFn] at h1 h2;split at h1
 ·rename_i hi;simp only[hi,dif_pos] at h2;cases h1;cases h2;exact h i hi
 ·cases h1
theorem iV.append{a a' b b':Array ak}(h:iV F ρ a a')(h':iV F ρ b b'):iV F ρ (a ++ b) (a' ++ b'):=by
 refine⟨by simp[h.size,h'.size],fun i x y h1 h2=>?_⟩;rw[Array.getElem?_append] at h1 h2;rw[←h.size] at h2;split at h1
 ·rename_i hi;simp only[hi,if_true] at h2;exact h.at_ _ _ _ h1 h2
 ·rename_i hi;simp only[hi,if_false] at h2;exact h'.at_ _ _ _ h1 h2
theorem iV.push{a a':Array ak}{v v':ak}(h:iV F ρ a a')(h':VR F ρ v v'):iV F ρ (a.push v) (a'.push v'):=by
 refine⟨by simp[h.size],fun i x y h1 h2=>?_⟩;rw[lD] at h1 h2;rw[←h.size] at h2;split at h1
 ·rename_i hi;simp only[hi,if_true] at h2;cases h1;cases h2;exact h'
 ·rename_i hi;simp only[hi,if_false] at h2;exact h.at_ _ _ _ h1 h2
theorem iV.one{v v':ak}(h:VR F ρ v v'):iV F ρ #[v] #[v']:=iV.nil.push h
theorem iV.extract{a a':Array ak}(h:iV F ρ a a')(i j:Nat):iV F ρ (a.extract i j) (a'.extract i j):=by
 refine⟨by simp[h.size],fun k x y h1 h2=>?_⟩;rw[Array.getElem?_extract] at h1 h2;rw[←h.size] at h2;split at h1
 ·rename_i hi;simp only[hi,if_true] at h2;exact h.at_ _ _ _ h1 h2
 ·cases h1
theorem iV.set{a a':Array ak}{v v':ak}(h:iV F ρ a a')(h':VR F ρ v v')(i:Nat):iV F ρ (a.setIfInBounds i v) (a'.setIfInBounds i v'):=by
 refine⟨by simp[h.size],fun k x y h1 h2=>?_⟩;rw[bD] at h1 h2;split at h1
 ·rename_i hi;simp only[hi,if_true] at h2;split at h1
  ·rename_i hl;rw[if_pos (by rw[←h.size];omega)] at h2;cases h1;cases h2;exact h'
  ·cases h1
 ·rename_i hi;simp only[hi,if_false] at h2;exact h.at_ _ _ _ h1 h2
theorem iV.replicate{v v':ak}(h:VR F ρ v v')(n:Nat):iV F ρ (aU n v) (aU n v'):=by
 refine⟨by simp,fun k x y h1 h2=>?_⟩;rw[Array.getElem?_replicate] at h1 h2
 by_cases hi:k<n
 ·rw[if_pos hi] at h1 h2;cases h1;cases h2;exact h
 ·rw[if_neg hi] at h1;cases h1
theorem iV.getD{a a':Array ak}{v v':ak}(h:iV F ρ a a')(h':VR F ρ v v')(i:Nat):VR F ρ (a.getD i v) (a'.getD i v'):=by
 rw[aW,aW];cases hx:a[i]? with
 |none=>rw[h.none hx];exact h'
 |some x=>
  obtain⟨y,hy,hv⟩:=h.get hx;rw[hy];exact hv
theorem iV.map{α:Type}{l:Array α}{f g:α→ak}(h : ∀x∈l,VR F ρ (f x) (g x)):iV F ρ (l.map f) (l.map g):=by
 refine⟨by simp,fun k x y h1 h2=>?_⟩;simp only[km] at h1 h2;cases hk:l[k]? with
 |none=>rw[hk] at h1;cases h1
 |some z=>
  rw[hk] at h1 h2;cases h1;cases h2;exact h z (fF hk)
theorem tH:VR F ρ undef undef:=iV.nil.tuple
theorem VR.cells{v v':ak}(h:VR F ρ v v'):iV F ρ v.cells v'.cells:=by
 cases h with
 |agg h1 h2=>exact⟨h1,h2⟩
 |bool b=>exact .one (.bool b)
 |int k n=>exact .one (.int k n)
 |string s=>exact .one (.string s)
 |B5=>exact .one .B5
 |ptr h=>exact .one (.ptr h)
 |DG l c=>exact .one (.DG l c)
 |slice l c h=>exact .one (.slice l c h)
 |TM=>exact .one .TM
 |map h=>exact .one (.map h)
 |chan r=>exact .one (.chan r)
 |func hf h1 h2 h3 h4=>exact .one (.func hf h1 h2 h3 h4)
 |TN=>exact .one .TN
 |tuple h1 h2=>exact .one (.tuple h1 h2)
def yS:ak→Bool
 |.bool _|.int ..|.string _|.pointer none|.slice none _ _|.map none|.chan _|.nilFunc=>true
 |_=>false
def Eb:ak→Bool
 |.agg cs=>cs.all yS
 |.tuple cs=>cs.all yS
 |v=>yS v
theorem Kh{v:ak}(h:yS v=true):VR F ρ v v:=by
 unfold yS at h;split at h
 all_goals first|cases h;done|constructor
theorem VA{cs:Array ak}(h:cs.all yS=true):iV F ρ cs cs:=⟨rfl,fun i x y h1 h2=>by
 rw[h1] at h2;cases h2
 exact Kh (Array.all_eq_true'.1 h x (fF h1))⟩
theorem yR{v:ak}(h:Eb v=true):VR F ρ v v:=by
 unfold Eb at h;split at h
 ·exact(VA h).agg
 ·exact(VA h).tuple
 ·exact Kh h
end
structure MER(F:Nat→Bool)(ρ:Rn)(x y:MapEntry):Prop where
 key:VR F ρ x.key y.key
 val:VR F ρ x.val y.val
 born:x.born=y.born
inductive OR(F:Nat→Bool)(ρ:Rn):Obj→Obj→Prop
 |cells {cs cs':Array ak} {e:bg} {z z':Nat × Nat}:iV F ρ cs cs'→(∀i,z'.1≤i→i<z'.2→z.1≤i∧i<z.2)→OR F ρ (.cells cs e z) (.cells cs' e z')
 |map {es es':Array MapEntry} {k:Nat}:es.size=es'.size→(∀(i:Nat) (x y:MapEntry),es[i]?=some x→es'[i]?=some y→MER F ρ x y)→OR F ρ (.map es k) (.map es' k)
 |number {a a':dc} (l:Bool):AR ρ a a'→OR F ρ (.number a l) (.number a' l)
theorem OR.Hh{F:Nat→Bool}{ρ:Rn}{o o':Obj}(h:OR F ρ o o'):o.isChan=false:=by cases h<;>rfl
theorem OR.mono{F:Nat→Bool}{ρ ρ':Rn}{o o':Obj}(h:OR F ρ o o')(hl:Rn.le ρ ρ'):OR F ρ' o o':=by
 cases h with
 |cells h1 h2=>exact .cells (h1.mono hl) h2
 |map h1 h2=>exact .map h1 fun i x y a b=>⟨(h2 i x y a b).key.mono hl,(h2 i x y a b).val.mono hl,(h2 i x y a b).born⟩
 |number l h=>exact .number l (h.mono hl)
structure WR(F:Nat→Bool)(G:Nat)(B:Nat→Prop)(ρ:Rn)(lw w:ar):Prop where
 inj : ∀a b c,ρ a=some c→ρ b=some c→a=b
 low : ∀b c,ρ b=some c→G≤b∧G≤c
 base : ∀b,B b→b<lw.heap.size
 at_ : ∀b c,ρ b=some c→∃o o',lw.heap[b]?=some o∧w.heap[c]?=some o'∧OR F ρ o o'∧(B b→∃cs e n,o=.cells cs e (0,n)∧cs.size≤n)
 Hh : ∀(b:Nat) (o:Obj),lw.heap[b]?=some o→o.isChan=false
def EK:Halt→Prop
 |.panic _|.stuck _=>True
 |.unsupported (.initOrder _)=>False
 |.unsupported _=>True
 |_=>False
section
variable{F:Nat→Bool}{G:Nat}{B:Nat→Prop}{ρ:Rn}{lw w:ar}
theorem WR.cell(h:WR F G B ρ lw w){a a':dc}(ha:AR ρ a a'){v:ak}(hv:lw.cell? a=some v) : ∃v',w.cell? a'=some v'∧VR F ρ v v':=by
 obtain⟨o,o',h1,h2,h3,_⟩:=h.at_ _ _ ha.block;unfold World.cell? at hv ⊢;rw[h1] at hv;rw[h2];cases h3 with
 |map _ _=>cases hv
 |number _ _=>cases hv
 |cells hc hz=>
  simp only at hv ⊢;rw[ha.spot,ha.off];split at hv
  ·cases hv
  ·rename_i hs;rw[if_neg hs];exact hc.get hv
theorem WR.noCell(h:WR F G B ρ lw w){P:aN}{a a':dc}(ha:AR ρ a a')(hv:lw.cell? a=none){b:Bool} : ∃e,lw.farLoad P a b=.error e∧EK e:=by
 obtain⟨o,o',h1,h2,h3,_⟩:=h.at_ _ _ ha.block;unfold World.farLoad World.noCell;rw[h1];cases h3 with
 |map _ _=>exact⟨_,rfl,trivial⟩
 |number _ _=>exact⟨_,rfl,trivial⟩
 |cells hc hz=>exact⟨_,rfl,trivial⟩
theorem WR.TL(h:WR F G B ρ lw w){P:aN}{a a':dc}(ha:AR ρ a a')(hv:lw.cell? a=none){b:Bool}{v:ak} : ∃e,lw.farStore P a v b=.error e∧EK e:=by
 obtain⟨o,o',h1,h2,h3,_⟩:=h.at_ _ _ ha.block;unfold World.farStore World.noCell;rw[h1];cases h3 with
 |map _ _=>exact⟨_,rfl,trivial⟩
 |number _ _=>exact⟨_,rfl,trivial⟩
 |cells hc hz=>exact⟨_,rfl,trivial⟩
theorem WR.shape(h:WR F G B ρ lw w){r r':Nat}(hr:ρ r=some r'):w.shape? r'=lw.shape? r:=by
 obtain⟨o,o',h1,h2,h3,_⟩:=h.at_ _ _ hr;unfold World.shape?;rw[h1,h2];cases h3 with
 |map _ _=>rfl
 |number _ _=>rfl
 |cells hc hz=>simp[hc.size]
theorem WR.tape(h:WR F G B ρ lw w)(τ τ':Nat→dG→Nat)(d d':Nat):WR F G B ρ (cX lw τ d) (cX w τ' d'):=⟨h.inj,h.low,h.base,h.at_,h.Hh⟩
theorem WR.turn(h:WR F G B ρ lw w){b c:Nat}(hb:ρ b=some c)(hB : ¬B b){o o':Obj}(ho:OR F ρ o o'){eM w':ar}(h1:eM.heap=lw.heap.setIfInBounds b o)(h2:w'.heap=w.heap.setIfInBounds c o'):WR F G B ρ eM w':=by
 refine⟨h.inj,h.low,fun x hx=>by rw[h1];simpa using h.base x hx,fun x y hx=>?_,fun x y hx=>?_⟩
 rotate_left
 ·rw[h1] at hx
  by_cases hxb:b=x
  ·subst hxb;rcases Nat.lt_or_ge b lw.heap.size with hl|hl
   ·rw[a7 hl] at hx;cases hx;exact ho.Hh
   ·rw[Array.getElem?_eq_none (by simpa using hl)] at hx;cases hx
  ·rw[aD hxb] at hx;exact h.Hh _ _ hx
 rw[h1,h2];obtain⟨p,p',e1,e2,e3,e4⟩:=h.at_ x y hx
 by_cases hxb:b=x
 ·subst hxb;have:c=y:=by rw[hb] at hx;exact bt hx
  subst this;refine⟨o,o',?_,?_,ho,fun hlt=>absurd hlt hB⟩
  ·rw[a7 (eY e1)]
  ·rw[a7 (eY e2)]
 ·have hyc:c≠y:=fun hc=>hxb (h.inj b x c hb (hc▸hx));rw[aD hxb,aD hyc];exact⟨p,p',e1,e2,e3,e4⟩
theorem yh{w:ar}{a:dc}{v:ak}{cs:Array ak}{e:bg}{z:Nat × Nat}(h:w.heap[a.block]?=some (.cells cs e z)) :
  (w.setCell a v).heap=w.heap.setIfInBounds a.block (.cells (if a.spot.isSome then cs else cs.setIfInBounds a.off v) e z):=by
 apply Array.ext_getElem?;intro j;simp only[jA];rw[py,bD];split
 ·rename_i S9;subst S9;rw[h,if_pos (eY h)];rfl
 ·rfl
theorem WR.setCell(h:WR F G B ρ lw w){a a':dc}(ha:AR ρ a a'){v v' x:ak}(hv:VR F ρ v v')(hc:lw.cell? a=some x)(hz:lw.frozen? a=false) :
  ¬B a.block∧w.frozen? a'=false∧WR F G B ρ (lw.setCell a v) (w.setCell a' v'):=by
 obtain⟨o,o',h1,h2,h3,h4⟩:=h.at_ _ _ ha.block;unfold World.cell? at hc;unfold World.frozen? at hz ⊢;rw[h1] at hc hz;rw[h2];cases h3 with
 |map _ _=>cases hc
 |number _ _=>cases hc
 |@cells cs cs' e z z' hcs hfz=>
  simp only at hc hz ⊢
  have adj:cs[a.off]?=some x:=by
   split at hc
   ·cases hc
   ·exact hc
  have hB : ¬B a.block:=by
   intro hlt;obtain⟨cs1,e1,n,he,hn⟩:=h4 hlt;injection he with he1 he2 he3
   subst he1;subst he3;have:=(aj.1 adj).1;have h5:a.off<n:=by omega
   simp[h5] at hz
  refine⟨hB,?_,?_⟩
  ·rw[ha.off];cases hcc:(decide (z'.1≤a.off)&&decide (a.off<z'.2)) with
   |false=>rfl
   |true=>
    simp only[aS,decide_eq_true_eq] at hcc;have:=hfz _ hcc.1 hcc.2;simp[this] at hz
  ·refine h.turn ha.block hB (o:=.cells (if a.spot.isSome then cs else cs.setIfInBounds a.off v) e z) (o':=.cells (if a'.spot.isSome then cs' else cs'.setIfInBounds a'.off v') e z') ?_ (yh h1) (yh h2);rw[ha.spot,ha.off];split
   ·exact .cells hcs hfz
   ·exact .cells (hcs.set hv _) hfz
def Rn.with(ρ:Rn)(b c:Nat):Rn:=fun x=>if x=b then some c else ρ x
theorem Rn.Nj{ρ:Rn}{b c:Nat}(h:ρ b=none):Rn.le ρ (ρ.with b c):=fun x y hx=>by
 unfold Rn.with
 split
 ·rename_i he;subst he;rw[h] at hx;cases hx
 ·exact hx
theorem Rn.zO{ρ:Rn}{b c:Nat}:ρ.with b c b=some c:=by simp[Rn.with]
theorem WR.fresh(h:WR F G B ρ lw w):ρ lw.heap.size=none:=by
 cases e:ρ lw.heap.size with
 |none=>rfl
 |some c=>
  obtain⟨o,_,h1,_⟩:=h.at_ _ _ e;have:=eY h1;omega
theorem WR.new(h:WR F G B ρ lw w)(hG:G≤lw.heap.size)(CL:G≤w.heap.size){o o':Obj}(ho:OR F ρ o o') :
  WR F G B (ρ.with lw.heap.size w.heap.size) { lw with heap:=lw.heap.push o } { w with heap:=w.heap.push o' }:=by
 have hle:=Rn.Nj (c:=w.heap.size) h.fresh;refine⟨fun a b c ha hb=>?_,fun b c hb=>?_,fun b hb=>by have:=h.base b hb;simp;omega,fun b c hb=>?_,fun b x hx=>?_⟩
 ·unfold Rn.with at ha hb
  have lt : ∀x,ρ x=some w.heap.size→False:=fun x hx=>by
   obtain⟨_,_,_,h2,_⟩:=h.at_ _ _ hx;have:=eY h2;omega
  split at ha
  ·split at hb
   ·rename_i h1 h2;rw[h1,h2]
   ·cases ha;exact(lt _ hb).elim
  ·split at hb
   ·cases hb;exact(lt _ ha).elim
   ·exact h.inj _ _ _ ha hb
 ·unfold Rn.with at hb
  split at hb
  ·rename_i he;cases hb;rw[he];exact⟨hG,CL⟩
  ·exact h.low _ _ hb
 ·by_cases he:b=lw.heap.size
  ·subst he;rw[Rn.zO] at hb;cases hb;refine⟨o,o',by simp,by simp,ho.mono hle,fun hlt=>absurd (h.base _ hlt) (by omega)⟩
  ·unfold Rn.with at hb
   simp only[he,if_false] at hb;obtain⟨p,p',e1,e2,e3,e4⟩:=h.at_ _ _ hb;refine⟨p,p',?_,?_,e3.mono hle,e4⟩
   ·simp only;rw[Array.getElem?_push_lt (eY e1)];rw[←e1];exact(aR (eY e1)).symm
   ·simp only;rw[Array.getElem?_push_lt (eY e2)];rw[←e2];exact(aR (eY e2)).symm
 ·simp only at hx;rw[lD] at hx;split at hx
  ·cases hx;exact ho.Hh
  ·exact h.Hh _ _ hx
end
def qO(P:aN){α:Type}(s:jO α):Prop:=∀w es,∃h w' es',s.runT P w es=(.halt h w',es')∧EK h
inductive bY(P:aN)(F:Nat→Bool){α β:Type}(A:Rn→α→β→Prop):Rn→jO α→jO β→Prop
 |pure {ρ:Rn} {a:α} {b:β}:A ρ a b→bY P F A ρ (.pure a) (.pure b)
 |dead {ρ:Rn} {s:jO α} {s':jO β}:qO P s→bY P F A ρ s s'
 |load {ρ:Rn} {a a':dc} {k:ak→jO α} {k':ak→jO β}:AR ρ a a'→(∀v v',VR F ρ v v'→bY P F A ρ (k v) (k' v'))→bY P F A ρ (.load .plain a k) (.load .plain a' k')
 |store {ρ:Rn} {a a':dc} {v v':ak} {k:jO α} {k':jO β}:AR ρ a a'→VR F ρ v v'→bY P F A ρ k k'→bY P F A ρ (.store .plain a v k) (.store .plain a' v' k')
 |new {ρ:Rn} {o o':Obj} {k:Nat→jO α} {k':Nat→jO β}:OR F ρ o o'→(∀ρ' r r',Rn.le ρ ρ'→ρ' r=some r'→bY P F A ρ' (k r) (k' r'))→bY P F A ρ (.new o k) (.new o' k')
 |shape {ρ:Rn} {r r':Nat} {k:Option (bg × Nat)→jO α} {k':Option (bg × Nat)→jO β}:ρ r=some r'→(∀s,bY P F A ρ (k s) (k' s))→bY P F A ρ (.shape r k) (.shape r' k')
 |getObj {ρ:Rn} {r r':Nat} {k:Obj→jO α} {k':Obj→jO β}:ρ r=some r'→(∀o o',OR F ρ o o'→bY P F A ρ (k o) (k' o'))→bY P F A ρ (.getObj r k) (.getObj r' k')
 |setObj {ρ:Rn} {r r':Nat} {o o':Obj} {k:jO α} {k':jO β}:ρ r=some r'→OR F ρ o o'→bY P F A ρ k k'→bY P F A ρ (.setObj r o k) (.setObj r' o' k')
 |choose {ρ:Rn} {q:dG} {k:Nat→jO α} {k':Nat→jO β}:(∀n,bY P F A ρ (k n) (k' n))→bY P F A ρ (.choose q k) (.choose q k')
 |program {ρ:Rn} {k:aN→jO α} {k':aN→jO β}:bY P F A ρ (k P) (k' P)→bY P F A ρ (.program k) (.program k')
 |noRoom {ρ:Rn} {k:jO α} {k':jO β}:bY P F A ρ k k'→bY P F A ρ (.mark .noRoom k) (.mark .noRoom k')
section
variable{P:aN}{F:Nat→Bool}{α β γ δ:Type}{A:Rn→α→β→Prop}{A':Rn→γ→δ→Prop}{ρ:Rn}
theorem rf{h:Halt}(hh:EK h):qO P (.halt h:jO α):=fun w es=>⟨h,w,es,rfl,hh⟩
theorem qO.bind{s:jO α}(h:qO P s)(f:α→jO γ):qO P (s >>= f):=fun w es=>by
 obtain⟨e,w',es',h1,h2⟩:=h w es;refine⟨e,w',es',?_,h2⟩;show(s.bind f).runT P w es=_;rw[Sem.runT_bind',h1]
theorem bY.bind{s:jO α}{s':jO β}{f:α→jO γ}{f':β→jO δ}(h:bY P F A ρ s s')(hf : ∀ρ' a b,Rn.le ρ ρ'→A ρ' a b→bY P F A' ρ' (f a) (f' b)) :
  bY P F A' ρ (s >>= f) (s' >>= f'):=by
 show bY P F A' ρ (s.bind f) (s'.bind f')
 induction h with
 |pure ha=>exact hf _ _ _ (Rn.le_refl _) ha
 |dead hd=>exact .dead (hd.bind f)
 |load ha _ ih=>exact .load ha fun v v' hv=>ih v v' hv hf
 |store ha hv _ ih=>exact .store ha hv (ih hf)
 |new ho _ ih=>exact .new ho fun ρ' r r' hl hr=>ih ρ' r r' hl hr fun ρ'' a b hl'=>hf ρ'' a b (Rn.le_trans hl hl')
 |shape hr _ ih=>exact .shape hr fun s=>ih s hf
 |getObj hr _ ih=>exact .getObj hr fun o o' ho=>ih o o' ho hf
 |setObj hr ho _ ih=>exact .setObj hr ho (ih hf)
 |choose _ ih=>exact .choose fun n=>ih n hf
 |program _ ih=>exact .program (ih hf)
 |noRoom _ ih=>exact .noRoom (ih hf)
theorem bY.imp{A':Rn→α→β→Prop}{s:jO α}{s':jO β}(h:bY P F A ρ s s')(hf : ∀ρ' a b,Rn.le ρ ρ'→A ρ' a b→A' ρ' a b):bY P F A' ρ s s':=by
 induction h with
 |pure ha=>exact .pure (hf _ _ _ (Rn.le_refl _) ha)
 |dead hd=>exact .dead hd
 |load ha _ ih=>exact .load ha fun v v' hv=>ih v v' hv hf
 |store ha hv _ ih=>exact .store ha hv (ih hf)
 |new ho _ ih=>exact .new ho fun ρ' r r' hl hr=>ih ρ' r r' hl hr fun ρ'' a b hl'=>hf ρ'' a b (Rn.le_trans hl hl')
 |shape hr _ ih=>exact .shape hr fun s=>ih s hf
 |getObj hr _ ih=>exact .getObj hr fun o o' ho=>ih o o' ho hf
 |setObj hr ho _ ih=>exact .setObj hr ho (ih hf)
 |choose _ ih=>exact .choose fun n=>ih n hf
 |program _ ih=>exact .program (ih hf)
 |noRoom _ ih=>exact .noRoom (ih hf)
abbrev At(ρ:Rn)(Q:α→β→Prop):Rn→α→β→Prop:=fun ρ' a b=>ρ'=ρ∧Q a b
theorem bY.dN{Q:α→β→Prop}{s:jO α}{s':jO β}{f:α→jO γ}{f':β→jO δ}(h:bY P F (At ρ Q) ρ s s')(hf : ∀a b,Q a b→bY P F A' ρ (f a) (f' b)) :
  bY P F A' ρ (s >>= f) (s' >>= f'):=h.bind fun ρ' a b _ ⟨e,hq⟩=>by subst e;exact hf a b hq
theorem bY.dv{Q:α→β→Prop}{a:α}{b:β}(h:Q a b):bY P F (At ρ Q) ρ (fA a) (fA b):=.pure ⟨rfl,h⟩
theorem bj{s:String}{s':jO β}:bY P F A ρ (stuck s) s':=.dead (rf trivial)
theorem cx{u:Unsupported}{s':jO β}(h : ∀g,u≠.initOrder g):bY P F A ρ (qR u) s':=.dead (rf (by cases u<;>first|trivial|exact absurd rfl (h _)))
end
def MT(R W:Nat→Prop)(e:gy):Prop:=
 (∃a:dc,e.loc=.cell a∧e.sync=false∧R a.block∧(e.write=true→W a.block))∨(∃r,e.loc=.obj r∧e.sync=false∧R r∧(e.write=true→W r))∨e.loc=.mark .noRoom
theorem MT.mono{R R' W W':Nat→Prop}{e:gy}(h:MT R W e)(hR : ∀c,R c→R' c)(hW : ∀c,W c→W' c):MT R' W' e:=by
 rcases h with⟨a,h1,h2,h3,h4⟩|⟨r,h1,h2,h3,h4⟩|h
 ·exact .inl ⟨a,h1,h2,hR _ h3,fun e=>hW _ (h4 e)⟩
 ·exact .inr (.inl ⟨r,h1,h2,hR _ h3,fun e=>hW _ (h4 e)⟩)
 ·exact .inr (.inr h)
def Rn.knows(ρ:Rn)(c:Nat):Prop:=∃b,ρ b=some c
def Rn.owns(ρ:Rn)(B:Nat→Prop)(c:Nat):Prop:=∃b,¬B b∧ρ b=some c
def vF(lw w:ar):Prop:=∀i,lw.tape (lw.drawn+i)=w.tape (w.drawn+i)
structure mP(F:Nat→Bool)(G:Nat)(B:Nat→Prop)(ρ:Rn)(lw w:ar)(ρ':Rn)(eM w':ar)(evs:Array gy):Prop where
 wr:WR F G B ρ' eM w'
 le:Rn.le ρ ρ'
 new : ∀b c,ρ' b=some c→ρ b=some c∨(lw.heap.size≤b∧w.heap.size≤c)
 F7:lw.heap.size≤eM.heap.size
 grow:w.heap.size≤w'.heap.size
 keep : ∀c,c<w.heap.size→¬ρ.owns B c→w'.heap[c]?=w.heap[c]?
 fresh : ∀c,w.heap.size≤c→c<w'.heap.size→ρ'.knows c
 tape:w'.tape=w.tape
 Ng:eM.tape=lw.tape
 draw : ∃k,eM.drawn=lw.drawn+k∧w'.drawn=w.drawn+k
 os:w'.os=w.os
 out:w'.output=w.output
 evs : ∀e∈evs,MT ρ'.knows (ρ'.owns B) e
section
variable{P:aN}{F:Nat→Bool}{G:Nat}{B:Nat→Prop}{ρ ρ' ρ'':Rn}{lw w eM w' ZK w'':ar}{es es':Array gy}
theorem mP.refl(h:WR F G B ρ lw w):mP F G B ρ lw w ρ lw w #[]:=
 ⟨h,Rn.le_refl _,fun b c h=>.inl h,ay _,ay _,fun _ _ _=>rfl,fun c h1 h2=>absurd h1 (by omega),rfl,rfl,⟨0,rfl,rfl⟩,rfl,rfl,by simp⟩
theorem mP.trans(h:mP F G B ρ lw w ρ' eM w' es)(h':mP F G B ρ' eM w' ρ'' ZK w'' es')(hB : ∀b,B b→b<lw.heap.size):mP F G B ρ lw w ρ'' ZK w'' (es ++ es'):=by
 refine⟨h'.wr,Rn.le_trans h.le h'.le,fun b c hb=>?_,bq h.F7 h'.F7,bq h.grow h'.grow,fun c hc hn=>?_,fun c h1 h2=>?_,h'.tape.trans h.tape,h'.Ng.trans h.Ng,?_,h'.os.trans h.os,h'.out.trans h.out,fun e he=>?_⟩
 ·rcases h'.new b c hb with h1|⟨h1,h2⟩
  ·exact h.new b c h1
  ·exact .inr ⟨bq h.F7 h1,bq h.grow h2⟩
 ·rw[h'.keep c (bE hc h.grow) ?_,h.keep c hc hn];rintro⟨b,hb,he⟩;rcases h.new b c he with h1|⟨_,h2⟩
  ·exact hn ⟨b,hb,h1⟩
  ·omega
 ·rcases Nat.lt_or_ge c w'.heap.size with hl|hg
  ·obtain⟨b,hb⟩:=h.fresh c h1 hl;exact⟨b,h'.le _ _ hb⟩
  ·exact h'.fresh c hg h2
 ·obtain⟨k,h1,h2⟩:=h.draw;obtain⟨k',h3,h4⟩:=h'.draw;exact⟨k+k',by omega,by omega⟩
 ·rcases FI.1 he with h1|h1
  ·exact(h.evs e h1).mono (fun c ⟨b,hb⟩=>⟨b,h'.le _ _ hb⟩) (fun c ⟨b,h1,hb⟩=>⟨b,h1,h'.le _ _ hb⟩)
  ·exact h'.evs e h1
theorem mP.U2(h:mP F G B ρ lw w ρ' eM w' es)(ht:vF lw w):vF eM w':=fun i=>by
 obtain⟨k,h1,h2⟩:=h.draw;rw[h.Ng,h.tape,h1,h2,nD,nD];exact ht _
theorem mP.more(h:mP F G B ρ lw w ρ' eM w' es)(h2 : ∀e∈es',MT ρ'.knows (ρ'.owns B) e):mP F G B ρ lw w ρ' eM w' es':=
 ⟨h.wr,h.le,h.new,h.F7,h.grow,h.keep,h.fresh,h.tape,h.Ng,h.draw,h.os,h.out,h2⟩
theorem mP.push(h:mP F G B ρ lw w ρ' eM w' es){e:gy}(he:MT ρ.knows (ρ.owns B) e):mP F G B ρ lw w ρ' eM w' (#[e] ++ es):=
 h.more fun x hx=>by
  rcases FI.1 hx with h1|h1
  ·simp only[fB,List.mem_singleton] at h1;subst h1;exact he.mono (fun c ⟨b,hb⟩=>⟨b,h.le _ _ hb⟩) (fun c ⟨b,h1,hb⟩=>⟨b,h1,h.le _ _ hb⟩)
  ·exact h.evs x h1
theorem FK(h:WR F G B ρ lw w)(h':WR F G B ρ eM w'){c:Nat}(hc:ρ.owns B c)(hl:eM.heap.size=lw.heap.size){o':Obj}(hh:w'.heap=w.heap.setIfInBounds c o')
  (h1:w'.tape=w.tape) (h2:eM.tape=lw.tape) (h3:eM.drawn=lw.drawn) (h4:w'.drawn=w.drawn) (h5:w'.os=w.os) (h6:w'.output=w.output):mP F G B ρ lw w ρ eM w' #[]:=
 ⟨h',Rn.le_refl _,fun b c h=>.inl h,by omega,by rw[hh];simp,fun x hx hn=>by
  rw[hh,aD (fun e=>hn (by rw[←e];exact hc))],
  fun c h1 h2=>by rw[hh] at h2;simp at h2;omega,h1,h2,⟨0,by simp[h3],by simp[h4]⟩,h5,h6,by simp⟩
theorem P1(h:WR F G B ρ lw w)(hG:G≤lw.heap.size)(CL:G≤w.heap.size){o o':Obj}(ho:OR F ρ o o') :
  mP F G B ρ lw w (ρ.with lw.heap.size w.heap.size) { lw with heap:=lw.heap.push o } { w with heap:=w.heap.push o' } #[]:=by
 refine⟨h.new hG CL ho,Rn.Nj h.fresh,fun b c hb=>?_,by simp,by simp,fun c hc _=>?_,fun c h1 h2=>?_,rfl,rfl,⟨0,rfl,rfl⟩,rfl,rfl,by simp⟩
 ·unfold Rn.with at hb
  split at hb
  ·rename_i he;cases hb;exact .inr ⟨by omega,ay _⟩
  ·exact .inl hb
 ·simp only;rw[Array.getElem?_push_lt hc];exact(aR hc).symm
 ·simp only[Array.size_push] at h2;have:c=w.heap.size:=by omega
  subst this;exact⟨lw.heap.size,Rn.zO⟩
theorem FL(h:WR F G B ρ lw w):mP F G B ρ lw w ρ { lw with drawn:=lw.drawn+1 } { w with drawn:=w.drawn+1 } #[]:=
 ⟨h.tape _ _ _ _,Rn.le_refl _,fun b c h=>.inl h,ay _,ay _,fun _ _ _=>rfl,fun c h1 h2=>absurd h2 (by simp only;omega),rfl,rfl,⟨1,rfl,rfl⟩,rfl,rfl,by simp⟩
theorem qw{α:Type}(es evs:Array α)(e:α):es.push e ++ evs=es ++ (#[e] ++ evs):=by
 rw[←Array.append_assoc,Array.append_singleton]
theorem bY.runT{α β:Type}{A:Rn→α→β→Prop}{s:jO α}{s':jO β}(h:bY P F A ρ s s') : ∀ {lw w:ar},WR F G B ρ lw w→vF lw w→G≤lw.heap.size→G≤w.heap.size→∀es es',
  (∃a eM l b w' evs ρ',s.runT P lw es=(.ok a eM,l)∧s'.runT P w es'=(.ok b w',es' ++ evs)∧A ρ' a b∧mP F G B ρ lw w ρ' eM w' evs)∨
  (∃e eM l,s.runT P lw es=(.halt e eM,l)∧EK e):=by
 induction h with
 |@pure ρ a b ha=>exact fun hw _ _ _ es es'=>.inl ⟨a,_,es,b,_,#[],ρ,rfl,by simp[dF],ha,.refl hw⟩
 |@dead ρ s s' hd=>
  intro lw w hw _ _ _ es es';obtain⟨e,w1,l,h1,h2⟩:=hd lw es;exact .inr ⟨e,w1,l,h1,h2⟩
 |@load ρ a a' k k' ha _ ih=>
  intro lw w hw ht hG CL es es';simp only[dF];cases hc:lw.cell? a with
  |none=>
   obtain⟨e,h1,h2⟩:=hw.noCell (P:=P) ha hc (b:=(mF == .atomic));rw[h1];exact .inr ⟨e,lw,es,rfl,h2⟩
  |some v=>
   obtain⟨v',hc',hv⟩:=hw.cell ha hc;rw[hc'];rcases ih v v' hv hw ht hG CL (es.push ⟨.cell a,false,mF == .atomic⟩) (es'.push ⟨.cell a',false,mF == .atomic⟩) with⟨x,jX,l,y,w1,evs,ρ1,h1,h2,h3,h4⟩|h
   ·refine .inl ⟨x,jX,l,y,w1,_,ρ1,h1,?_,h3,h4.push (e:=⟨.cell a',false,mF == .atomic⟩) (.inl ⟨a',rfl,rfl,⟨_,ha.block⟩,by simp⟩)⟩;exact h2.trans (by rw[qw])
   ·exact .inr h
 |@store ρ a a' v v' k k' ha hv _ ih=>
  intro lw w hw ht hG CL es es'
  have main:(∃a1 eM l b w' evs ρ',(match lw.cell? a with
     |some _=>if lw.frozen? a then(.halt (.unsupported (.unsafePointer "a write to bytes that a string shares")) lw,es) else k.runT P (lw.setCell a v) (es.push ⟨.cell a,true,mF == .atomic⟩)
     |none=>match lw.farStore P a v (mF == .atomic) with
      |.ok (w,tI)=>k.runT P w (es ++ tI.toArray.map (⟨.cell ·,true,mF == .atomic⟩))
      |.error h=>(.halt h lw,es))=(.ok a1 eM,l)∧(match w.cell? a' with
     |some _=>if w.frozen? a' then(.halt (.unsupported (.unsafePointer "a write to bytes that a string shares")) w,es') else k'.runT P (w.setCell a' v') (es'.push ⟨.cell a',true,mF == .atomic⟩)
     |none=>match w.farStore P a' v' (mF == .atomic) with
      |.ok (w,tI)=>k'.runT P w (es' ++ tI.toArray.map (⟨.cell ·,true,mF == .atomic⟩))
      |.error h=>(.halt h w,es'))=(.ok b w',es' ++ evs)∧A ρ' a1 b∧mP F G B ρ lw w ρ' eM w' evs)∨(∃e eM l,(match lw.cell? a with
     |some _=>if lw.frozen? a then(.halt (.unsupported (.unsafePointer "a write to bytes that a string shares")) lw,es) else k.runT P (lw.setCell a v) (es.push ⟨.cell a,true,mF == .atomic⟩)
     |none=>match lw.farStore P a v (mF == .atomic) with
      |.ok (w,tI)=>k.runT P w (es ++ tI.toArray.map (⟨.cell ·,true,mF == .atomic⟩))
      |.error h=>(.halt h lw,es))=(.halt e eM,l)∧EK e):=by
   cases hc:lw.cell? a with
   |none=>
    obtain⟨e,h1,h2⟩:=hw.TL (P:=P) ha hc (b:=(mF == .atomic)) (v:=v);simp only[h1];exact .inr ⟨e,lw,es,rfl,h2⟩
   |some x=>
    obtain⟨x',hc',_⟩:=hw.cell ha hc;simp only[hc'];cases hz:lw.frozen? a with
    |true=>exact .inr ⟨_,lw,es,rfl,trivial⟩
    |false=>
     obtain⟨hB,hz',hw'⟩:=hw.setCell ha hv hc hz;simp only[hz',bF,if_false];have hsz:(lw.setCell a v).heap.size=lw.heap.size:=by simp[jA]
     have hown:ρ.owns B a'.block:=⟨a.block,hB,ha.block⟩
     have hturn:mP F G B ρ lw w ρ (lw.setCell a v) (w.setCell a' v') #[]:=by
      obtain⟨o,o',_,e2,_,_⟩:=hw.at_ _ _ ha.block;refine⟨hw',Rn.le_refl _,fun b c h=>.inl h,by omega,by simp[jA],fun c hcl hn=>?_,fun c h1 h2=>by simp[jA] at h2;omega,rfl,rfl,⟨0,rfl,rfl⟩,rfl,rfl,by simp⟩;simp only[jA,py];rw[if_neg (fun e=>hn (by rw[←e];exact hown))]
     rcases ih hw' (fun i=>ht i) (by omega) (by simp[jA];exact CL) (es.push ⟨.cell a,true,mF == .atomic⟩) (es'.push ⟨.cell a',true,mF == .atomic⟩) with⟨x,jX,l,y,w1,evs,ρ1,h1,h2,h3,h4⟩|h
     ·refine .inl ⟨x,jX,l,y,w1,#[⟨.cell a',true,mF == .atomic⟩] ++ (#[] ++ evs),ρ1,h1,?_,h3,(hturn.trans h4 hw.base).push (.inl ⟨a',rfl,rfl,⟨_,ha.block⟩,fun _=>hown⟩)⟩;exact h2.trans (by simp only[qw,fJ])
     ·exact .inr h
  cases hv with
  |agg _ _=>exact .inr ⟨_,lw,es,rfl,trivial⟩
  |tuple _ _=>exact .inr ⟨_,lw,es,rfl,trivial⟩
  |_=>simp only[dF];exact main
 |@new ρ o o' k k' ho _ ih=>
  intro lw w hw ht hG CL es es';simp only[dF];have h0:=P1 hw hG CL ho;rcases ih _ lw.heap.size w.heap.size h0.le Rn.zO h0.wr (h0.U2 ht) (by simp;omega) (by simp;omega) es es' with⟨x,jX,l,y,w1,evs,ρ1,h1,h2,h3,h4⟩|h
  ·exact .inl ⟨x,jX,l,y,w1,_,ρ1,h1,by rw[h2];simp,h3,h0.trans h4 hw.base⟩
  ·exact .inr h
 |@shape ρ r r' k k' hr _ ih=>
  intro lw w hw ht hG CL es es';simp only[dF];rw[hw.shape hr];exact ih _ hw ht hG CL es es'
 |@getObj ρ r r' k k' hr _ ih=>
  intro lw w hw ht hG CL es es';obtain⟨o,o',e1,e2,ho,_⟩:=hw.at_ _ _ hr;simp only[dF,e1,e2];cases ho with
  |cells _ _=>exact .inr ⟨_,lw,es,rfl,trivial⟩
  |@map es1 es2 k1 hs hm=>
   simp only;rcases ih _ _ (.map hs hm) hw ht hG CL (es.push ⟨.obj r,false,(Obj.map es1 k1).isChan⟩) (es'.push ⟨.obj r',false,(Obj.map es2 k1).isChan⟩) with⟨x,jX,l,y,w1,evs,ρ1,h1,h2,h3,h4⟩|h
   ·refine .inl ⟨x,jX,l,y,w1,_,ρ1,h1,?_,h3,h4.push (e:=⟨.obj r',false,(Obj.map es2 k1).isChan⟩) (.inr (.inl ⟨r',rfl,rfl,⟨_,hr⟩,by simp⟩))⟩;exact h2.trans (by simp only[qw,fJ])
   ·exact .inr h
  |@number a1 a2 k1 hs=>
   simp only;rcases ih _ _ (.number k1 hs) hw ht hG CL (es.push ⟨.obj r,false,(Obj.number a1 k1).isChan⟩) (es'.push ⟨.obj r',false,(Obj.number a2 k1).isChan⟩) with⟨x,jX,l,y,w1,evs,ρ1,h1,h2,h3,h4⟩|h
   ·refine .inl ⟨x,jX,l,y,w1,_,ρ1,h1,?_,h3,h4.push (e:=⟨.obj r',false,(Obj.number a2 k1).isChan⟩) (.inr (.inl ⟨r',rfl,rfl,⟨_,hr⟩,by simp⟩))⟩;exact h2.trans (by simp only[qw,fJ])
   ·exact .inr h
 |@setObj ρ r r' o o' k k' hr ho _ ih=>
  intro lw w hw ht hG CL es es';obtain⟨p,p',e1,e2,hp,hfz⟩:=hw.at_ _ _ hr;simp only[dF,e1,e2];cases hp with
  |cells _ _=>exact .inr ⟨_,lw,es,rfl,trivial⟩
  |@map es1 es2 k1 hs hm=>
   simp only
   have hB : ¬B r:=fun hl=>by
    obtain⟨_,_,_,h,_⟩:=hfz hl;cases h
   have hown:ρ.owns B r':=⟨r,hB,hr⟩
   have hw':WR F G B ρ { lw with heap:=lw.heap.setIfInBounds r o } { w with heap:=w.heap.setIfInBounds r' o' }:=hw.turn hr hB ho rfl rfl
   have hturn:mP F G B ρ lw w ρ { lw with heap:=lw.heap.setIfInBounds r o } { w with heap:=w.heap.setIfInBounds r' o' } #[]:=
    FK hw hw' hown (by simp) rfl rfl rfl rfl rfl rfl rfl
   have hch:o'.isChan=false:=by cases ho<;>rfl
   rcases ih hw' (fun i=>ht i) (by simpa using hG) (by simpa using CL) (es.push ⟨.obj r,true,o.isChan⟩) (es'.push ⟨.obj r',true,o'.isChan⟩) with⟨x,jX,l,y,w1,evs,ρ1,h1,h2,h3,h4⟩|h
   ·refine .inl ⟨x,jX,l,y,w1,#[⟨.obj r',true,o'.isChan⟩] ++ (#[] ++ evs),ρ1,h1,?_,h3,(hturn.trans h4 hw.base).push (.inr (.inl ⟨r',rfl,hch,⟨_,hr⟩,fun _=>hown⟩))⟩;exact h2.trans (by simp only[qw,fJ])
   ·exact .inr h
  |@number a1 a2 k1 hs=>
   simp only
   have hB : ¬B r:=fun hl=>by
    obtain⟨_,_,_,h,_⟩:=hfz hl;cases h
   have hown:ρ.owns B r':=⟨r,hB,hr⟩
   have hw':WR F G B ρ { lw with heap:=lw.heap.setIfInBounds r o } { w with heap:=w.heap.setIfInBounds r' o' }:=hw.turn hr hB ho rfl rfl
   have hturn:mP F G B ρ lw w ρ { lw with heap:=lw.heap.setIfInBounds r o } { w with heap:=w.heap.setIfInBounds r' o' } #[]:=
    FK hw hw' hown (by simp) rfl rfl rfl rfl rfl rfl rfl
   have hch:o'.isChan=false:=by cases ho<;>rfl
   rcases ih hw' (fun i=>ht i) (by simpa using hG) (by simpa using CL) (es.push ⟨.obj r,true,o.isChan⟩) (es'.push ⟨.obj r',true,o'.isChan⟩) with⟨x,jX,l,y,w1,evs,ρ1,h1,h2,h3,h4⟩|h
   ·refine .inl ⟨x,jX,l,y,w1,#[⟨.obj r',true,o'.isChan⟩] ++ (#[] ++ evs),ρ1,h1,?_,h3,(hturn.trans h4 hw.base).push (.inr (.inl ⟨r',rfl,hch,⟨_,hr⟩,fun _=>hown⟩))⟩;exact h2.trans (by simp only[qw,fJ])
   ·exact .inr h
 |@choose ρ q k k' _ ih=>
  intro lw w hw ht hG CL es es';simp only[dF];split
  ·exact ih 0 hw ht hG CL es es'
  ·have h0:lw.tape lw.drawn=w.tape w.drawn:=ht 0;rw[h0];have hd:=FL hw;rcases ih (q.cut (w.tape w.drawn q)) hd.wr (hd.U2 ht) hG CL es es' with⟨x,jX,l,y,w1,evs,ρ1,h1,h2,h3,h4⟩|h
   ·exact .inl ⟨x,jX,l,y,w1,_,ρ1,h1,by rw[h2];simp,h3,hd.trans h4 hw.base⟩
   ·exact .inr h
 |@program ρ k k' _ ih=>
  intro lw w hw ht hG CL es es';simp only[dF];exact ih hw ht hG CL es es'
 |@noRoom ρ k k' _ ih=>
  intro lw w hw ht hG CL es es';simp only[dF];rcases ih hw ht hG CL (es.push ⟨.mark .noRoom,false,true⟩) (es'.push ⟨.mark .noRoom,false,true⟩) with⟨x,jX,l,y,w1,evs,ρ1,h1,h2,h3,h4⟩|h
  ·refine .inl ⟨x,jX,l,y,w1,_,ρ1,h1,?_,h3,h4.push (e:=⟨.mark .noRoom,false,true⟩) (.inr (.inr rfl))⟩;exact h2.trans (by simp only[qw,fJ])
  ·exact .inr h
end
section
variable{P:aN}{F:Nat→Bool}{α β γ δ:Type}{A:Rn→α→β→Prop}{A':Rn→γ→δ→Prop}{ρ:Rn}
abbrev Same(ρ:Rn)(C:α→Prop):Rn→α→α→Prop:=At ρ fun a b=>a=b∧C a
theorem bY.bH{C:α→Prop}{s s':jO α}{f:α→jO γ}{f':α→jO δ}(h:bY P F (Same ρ C) ρ s s')(hf : ∀a,C a→bY P F A' ρ (f a) (f' a)) :
  bY P F A' ρ (s >>= f) (s' >>= f'):=h.dN fun a b ⟨e,hc⟩=>by subst e;exact hf a hc
theorem vL{C:α→Prop}{a:α}(h:C a):bY P F (Same ρ C) ρ (fA a) (fA a):=.pure ⟨rfl,rfl,h⟩
theorem cN{a:α}:bY P F (Same ρ fun _=>True) ρ (fA a) (fA a):=.pure ⟨rfl,rfl,trivial⟩
theorem kF{f:aN→jO α}{f':aN→jO β}(h:bY P F A ρ (f P) (f' P)):bY P F A ρ (Go.program >>= f) (Go.program >>= f'):=.program h
theorem dp{t:bg}:bY P F (Same ρ fun d=>P.underlying t=some d) ρ (underlying t) (underlying t):=by
 unfold underlying;refine kF ?_;cases h:P.underlying t with
 |none=>exact bj
 |some d=>exact vL rfl
theorem jE{t:bg}:bY P F (Same ρ fun d=>P.info? t=some d) ρ (typeInfo t) (typeInfo t):=by
 unfold typeInfo;refine kF ?_;cases h:P.info? t with
 |none=>exact bj
 |some d=>exact vL rfl
theorem gW{t:bg}:bY P F (Same ρ fun n=>∃i,P.info? t=some i∧n=i.size) ρ (sizeOf t) (sizeOf t):=by
 unfold sizeOf;refine jE.bH fun i hi=>?_;exact vL ⟨i,hi,rfl⟩
theorem Db{t:bg}:bY P F (Same ρ fun _=>True) ρ (isAgg t) (isAgg t):=by
 unfold isAgg;refine dp.bH fun d _=>?_;cases d<;>exact cN
def oD(P:aN)(t:bg):Bool:=((P.info? t).bind (·.zero)).all Eb
theorem lI{t:bg}(h:oD P t=true):bY P F (At ρ (VR F ρ)) ρ (zeroValue t) (zeroValue t):=by
 unfold zeroValue;refine jE.bH fun i hi=>?_;unfold oD at h;rw[hi] at h;cases hz:i.zero with
 |none=>exact cx (fun g=>by simp)
 |some v=>
  simp only[Option.bind_some,hz,Option.all_some] at h;exact .dv (yR h)
theorem FY{a a':dc}(ha:AR ρ a a'):bY P F (At ρ (VR F ρ)) ρ (load a) (load a'):=.load ha fun v v' hv=>.dv hv
theorem qp{a a':dc}(ha:AR ρ a a') : ∀(n i:Nat) {acc UL:Array ak},iV F ρ acc UL→bY P F (At ρ (iV F ρ)) ρ (loadCellsFrom a i n acc) (loadCellsFrom a' i n UL)
 |0,i,acc,UL,h=>.dv h
 |n+1,i,acc,UL,h=>(FY (ha.add i)).dN fun v v' hv=>qp ha n (i+1) (h.push hv)
theorem uT{a a':dc}(ha:AR ρ a a')(n:Nat):bY P F (At ρ (iV F ρ)) ρ (loadCells a n) (loadCells a' n):=qp ha n 0 .nil
theorem yi{t:bg}{a a':dc}(ha:AR ρ a a'):bY P F (At ρ (VR F ρ)) ρ (loadVar t a) (loadVar t a'):=by
 unfold loadVar;refine Db.bH fun b _=>?_;cases b with
 |true=>exact gW.bH fun n _=>(uT ha n).dN fun cs cs' h=>.dv h.agg
 |false=>exact FY ha
theorem Le{a a':dc}{v v':ak}(ha:AR ρ a a')(hv:VR F ρ v v'):bY P F (At ρ fun _ _=>True) ρ (store a v) (store a' v'):=.store ha hv (.dv trivial)
inductive PJ(F:Nat→Bool)(ρ:Rn):List ak→List ak→Prop
 |nil:PJ F ρ [] []
 |cons {x y:ak} {l m:List ak}:VR F ρ x y→PJ F ρ l m→PJ F ρ (x :: l) (y :: m)
theorem WA{l m:List ak}(hs:l.length=m.length)(h : ∀(i:Nat) (x y:ak),l[i]?=some x→m[i]?=some y→VR F ρ x y):PJ F ρ l m:=by
 induction l generalizing m with
 |nil=>
  cases m with
  |nil=>exact .nil
  |cons y m=>cases hs
 |cons x l ih=>
  cases m with
  |nil=>cases hs
  |cons y m=>exact .cons (h 0 x y rfl rfl) (ih (by simpa using hs) fun i a b h1 h2=>h (i+1) a b (by simpa using h1) (by simpa using h2))
theorem iV.list{a a':Array ak}(h:iV F ρ a a'):PJ F ρ a.toList a'.toList:=WA (by simpa using h.size) fun i x y h1 h2=>h.at_ i x y (by simpa using h1) (by simpa using h2)
theorem PJ.row{l m:List ak}(h:PJ F ρ l m):iV F ρ l.toArray m.toArray:=by
 induction h with
 |nil=>exact .nil
 |@cons x y l m hv _ ih=>
  have:=(iV.one hv).append ih;simpa using this
theorem uj{a a':dc}(ha:AR ρ a a'){l m:List ak}(h:PJ F ρ l m) : ∀i,bY P F (At ρ fun _ _=>True) ρ (storeCells a l i) (storeCells a' m i):=by
 induction h with
 |nil=>intro i;exact .dv trivial
 |cons hv _ ih=>intro i;exact(Le (ha.add i) hv).dN fun _ _ _=>ih (i+1)
theorem EX{t:bg}{a a':dc}{v v':ak}(ha:AR ρ a a')(hv:VR F ρ v v'):bY P F (At ρ fun _ _=>True) ρ (storeVar t a v) (storeVar t a' v'):=by
 unfold storeVar;refine gW.bH fun n _=>?_;rw[←hv.cells.size];split
 ·exact .dead ((rf (h:=.stuck _) trivial).bind _)
 ·exact uj ha hv.cells.list 0
theorem uS{e:bg}{cs cs':Array ak}(h:iV F ρ cs cs'):bY P F AR ρ (newRow e cs) (newRow e cs'):=by
 unfold newRow;exact bY.bind (A:=fun ρ' r r'=>ρ' r=some r') (.new (.cells h fun i h1 h2=>absurd h2 (Nat.not_lt_zero _)) fun ρ' r r' _ hr=>.pure hr) fun ρ' r r' _ hr=>.pure ⟨hr,rfl,rfl⟩
theorem Bc{e:bg}{v v':ak}(h:VR F ρ v v'):bY P F AR ρ (newVar e v) (newVar e v'):=uS h.cells
theorem nU{t:bg}{cs cs':Array ak}(h:iV F ρ cs cs')(off:Nat):bY P F (At ρ (VR F ρ)) ρ (part t cs off) (part t cs' off):=by
 unfold part;refine Db.bH fun b _=>?_;cases b with
 |true=>exact gW.bH fun n _=>.dv (h.extract _ _).agg
 |false=>
  simp only[bF,if_false];cases hx:cs[off]? with
  |none=>exact bj
  |some x=>
   obtain⟨y,hy,hv⟩:=h.get hx;rw[hy];exact .dv hv
theorem qo{r r':Nat}(h:ρ r=some r'):bY P F (Same ρ fun _=>True) ρ (shape r) (shape r'):=.shape h fun s=>cN
theorem EY{r r':Nat}(h:ρ r=some r'):bY P F (At ρ fun x y=>(x=none∧y=none)∨∃a a' l,x=some (a,l)∧y=some (a',l)∧AR ρ a a') ρ (numberAt r) (numberAt r'):=by
 unfold numberAt;refine(qo h).bH fun s _=>?_;split
 ·exact .dv (.inl ⟨rfl,rfl⟩)
 ·refine bY.dN (Q:=OR F ρ) (.getObj h fun o o' ho=>.dv ho) fun o o' ho=>?_;cases ho with
  |cells _ _=>exact .dv (.inl ⟨rfl,rfl⟩)
  |map _ _=>exact .dv (.inl ⟨rfl,rfl⟩)
  |number l ha=>exact .dv (.inr ⟨_,_,l,rfl,rfl,ha⟩)
theorem iN{a a':dc}(h:AR ρ a a'):bY P F (At ρ fun x y=>AR ρ x.1 y.1∧x.2=y.2) ρ (qP a) (qP a'):=by
 unfold qP;refine(EY h.block).dN fun x y ZU=>?_;rcases ZU with⟨rfl,rfl⟩|⟨b,b',l,rfl,rfl,hb⟩
 ·exact .dv ⟨h,rfl⟩
 ·exact .dv ⟨hb,rfl⟩
theorem A8{r r':Nat}(h:ρ r=some r'):bY P F (At ρ fun x y=>x=none∧y=none) ρ (viewAt r) (viewAt r'):=by
 unfold viewAt;refine(qo h).bH fun s _=>?_;split
 ·exact .dv ⟨rfl,rfl⟩
 ·refine bY.dN (Q:=OR F ρ) (.getObj h fun o o' ho=>.dv ho) fun o o' ho=>?_;cases ho<;>exact .dv ⟨rfl,rfl⟩
theorem Jp{a a':dc}(h:AR ρ a a'):bY P F (At ρ fun _ _=>True) ρ (noView a) (noView a'):=by
 unfold noView;refine(A8 h.block).dN fun x y ⟨hx,hy⟩=>?_;subst hx;subst hy;exact .dv trivial
theorem tK{v v':ak}(h:VR F ρ v v'):bY P F (Same ρ fun x=>v=.int x.1 x.2∧v'=.int x.1 x.2) ρ (asIntOf v) (asIntOf v'):=by
 cases h<;>first|exact .pure ⟨rfl,rfl,rfl,rfl⟩|exact bj|exact cx (by simp)
theorem Ll{v v':ak}(h:VR F ρ v v'):bY P F (Same ρ fun n=>∃k,v=.int k n∧v'=.int k n) ρ (asInt v) (asInt v'):=by
 unfold asInt;exact(tK h).bH fun x hx=>vL ⟨_,hx⟩
theorem Jv{a a':dc}(h:AR ρ a a'):bY P F (Same ρ fun _=>True) ρ (byteOf a) (byteOf a'):=by
 unfold byteOf;rw[h.spot];cases a.spot with
 |some s=>exact cN
 |none=>
  simp only[pure_bind];refine kF ?_;refine(Jp h).dN fun _ _ _=>(qo h.block).bH fun s _=>?_;cases s with
  |none=>exact bj
  |some x=>
   obtain⟨e,n⟩:=x;simp only[h.off];split
   ·exact cN
   ·cases byteOfCell P P.depth e (a.off % P.cellsOf e) with
    |none=>exact bj
    |some b=>exact cN
theorem pD{α:Type}{e:RuntimeError}(h : ∀i c a m,e≠.typeAssertion i c a m)(h':e≠.panicNil):qO P (eL e:jO α):=by
 intro w es;cases e with
 |typeAssertion i c a m=>exact absurd rfl (h _ _ _ _)
 |panicNil=>exact absurd rfl h'
 |_=>exact⟨_,w,es,rfl,trivial⟩
theorem gJ{e:RuntimeError}{s':jO β}(h : ∀i c a m,e≠.typeAssertion i c a m:=by simp)(h':e≠.panicNil:=by simp):bY P F A ρ (eL e) s':=.dead (pD h h')
theorem fQ{u:Unsupported}(h : ∀g,u≠.initOrder g):qO P (qR u:jO α):=rf (by cases u<;>first|trivial|exact absurd rfl (h _))
theorem uV{q:dG}:bY P F (Same ρ fun _=>True) ρ (zH q) (zH q):=.choose fun n=>cN
theorem lT{k:IntKind}{x y:Int}{c:BoundsCode}:bY P F A ρ (boundsPanic k x y c:jO α) (boundsPanic k x y c:jO β):=by
 unfold boundsPanic;dsimp only;split
 ·refine bY.bind (A:=fun _ _ _=>True) (bY.bind (A:=fun _ _ _=>True) (uV.imp fun _ _ _ _ _=>trivial) fun _ _ _ _ _=>.pure trivial) fun ρ' a b _ _=>?_;exact gJ
 ·refine bY.bind (A:=fun _ _ _=>True) (.pure trivial) fun ρ' a b _ _=>?_;exact gJ
theorem uQ{ts ts':Array bg}{t t':bg}{p p':Option dc}{v v':ak}(hp:VR F ρ (.pointer p) (.pointer p'))(hv:VR F ρ v v') :
  bY P F (At ρ fun x y=>∃a a',AR ρ a a'∧x=.pointer (some a)∧y=.pointer (some a')) ρ (Builtin.unsafeAdd_ ts t #[.pointer p,v]) (Builtin.unsafeAdd_ ts' t' #[.pointer p',v']):=by
 unfold Builtin.unsafeAdd_;refine(Ll hv).bH fun n _=>?_
 by_cases h0:n=0
 ·simp only[h0,if_true];cases hp with
  |B5=>exact .dead ((fQ (by simp)).bind _)
  |ptr ha=>
   simp only[bind_assoc];refine(A8 ha.block).dN fun x y ⟨hx,hy⟩=>?_;subst hx;subst hy;exact .dv ⟨_,_,ha,rfl,rfl⟩
 ·simp only[h0,if_false,pure_bind]
  by_cases h1:n<0
  ·simp only[h1,if_true];exact .dead ((fQ (by simp)).bind _)
  ·simp only[h1,if_false,pure_bind];cases hp with
   |B5=>exact cx (by simp)
   |@ptr a a' ha=>
    refine(qo ha.block).bH fun s _=>?_;cases s with
    |none=>exact cx (by simp)
    |some x=>
     obtain⟨e,n'⟩:=x;refine kF ?_;simp only[ha.off];cases cellAtBytes P P.depth e (n' / P.cellsOf e) a.off n with
     |none=>exact cx (by simp)
     |some off=>exact .dv ⟨_,_,ha.at off,rfl,rfl⟩
theorem E3{a a':dc}(ha:AR ρ a a')(l:Bool):bY P F (VR F) ρ (asNumber a l) (asNumber a' l):=by
 unfold asNumber;exact bY.bind (A:=fun ρ' r r'=>ρ' r=some r') (.new (.number l ha) fun ρ' r r' _ hr=>.pure hr) fun ρ' r r' _ hr=>.pure (.ptr ⟨hr,rfl,rfl⟩)
end
end Go.Lag
