/- WALKS OF TEXT BESIDE LEAVERS: pieces that a lone walk passes, and calls whose contract holds beside leavers alone. ████ bell.good IN COMPANY: its cont .. -/
import Derived.Test.YtffladgmkiimjaaGreatDoorW10
import Derived.Conc.LeavingOf
import Derived.ProofKit
import Derived.Test.YtffladgmkiimjaaGreatDoorW00
import Derived.LaidLaws
import Derived.SevenTiedAt
import Derived.Test.YtffladgmkiimjaaGreatDoorW09
set_option linter.unusedVariables false
set_option linter.unusedSimpArgs false
set_option maxHeartbeats 100000000
set_option maxRecDepth 1000000
open Array renaming getElem?_eq_getElem → aR,replicate → aU,mem_of_getElem? → fF
open Go renaming wp_mono → AP,Program → aN,undef → af,Value → ak,World → ar,Frame → bP,Oper → cU,Code → gZ
open Go.Frame renaming enter → eH
open Go.Proofs.Tryz renaming prog → aq,f159 → kS
open Go.Region renaming wanted → dQ
open Go.World renaming cell? → dU
open Go.stepG renaming apply → eE
open List renaming mem_append → bJ,range → bf,mem_cons → cC,not_mem_nil → eR,mem_toArray → fB,append_toArray → iG,cons_append → iM,push_toArray → jJ,nil_append → kx
open List.range renaming loop → bR
open Nat renaming le_refl → ay,lt_of_lt_of_le → bE,le_trans → bq
open Option.some renaming inj → bt
namespace Go.Lag
open Go.Conc
section
variable{P:aN}
def U0(b:bP)(k:List Item)(cs:List bP):Exit→Act→Goroutine→Prop
 |.normal,a,g=>g=G (b.at a k) cs
 |.exit id,a,g=>∃k',exitTo id k=some k'∧g=G (b.at a k') cs
 |.ret,a,g=>∃todo,g=G { b.at a todo with mode:=.returning } cs
 |_,_,_=>False
def sD:Exit→Bool
 |.normal|.exit _|.ret=>true
 |_=>false
def SE(Q:Exit→Act→ar→Prop)(k:List Item):Prop:=∀id a w,Q (.exit id) a w→∃k',exitTo id k=some k'
def nN(P:aN)(c:gZ)(Q:Exit→Act→ar→Prop)(a:Act)(W:ar):Prop:=
 ∀(b:bP) (k:List Item) (cs:List bP),b.kind≠.early→SE Q k→jo P (fun g' W'=>∃e a' τ d,Q e a' (cX W' τ d)∧U0 b k cs e a' g') (G (b.at a (.code c :: k)) cs) W
def ic(P:aN)(ops:Array cU)(Q:Exit→Act→ar→Prop)(l:List Nat)(a:Act)(W:ar):Prop:=
 ∀(b:bP) (k:List Item) (cs:List bP),b.kind≠.early→SE Q k→jo P (fun g' W'=>∃e a' τ d,Q e a' (cX W' τ d)∧U0 b k cs e a' g') (G (b.at a (.inRegion ops l :: k)) cs) W
variable{Q Q':Exit→Act→ar→Prop}{a:Act}{W:ar}{b:bP}{k:List Item}{cs:List bP}
theorem ym(T:Quiet P){m:List Item}(hb:b.kind≠.early)(hL:SE Q k)(hQ : ∀e a w,Q e a w→sD e=true)
  (h : ∀τ,∃e a' w',Q e a' w'∧Arrives P (lone (b.at a m) cs (cX W τ 0)) b k cs e a' w') :
  jo P (fun g' W'=>∃e a' τ d,Q e a' (cX W' τ d)∧U0 b k cs e a' g') (G (b.at a m) cs) W:=by
 refine(Bf T (Q:=fun fr' W'=>∃e a',Q e a' W'∧U0 b k cs e a' (G fr' cs)) fun τ=>?_).mono ?_
 ·obtain⟨e,a',w',hq,harr⟩:=h τ;have hf:=hQ _ _ _ hq;cases e with
  |normal=>exact⟨_,w',harr,_,a',hq,rfl⟩
  |exit id=>
   obtain⟨k',hk⟩:=hL id _ _ hq;exact⟨_,w',harr k' hk,_,a',hq,k',hk,rfl⟩
  |ret=>
   obtain⟨todo,hs⟩:=harr;exact⟨_,w',hs,_,a',hq,todo,rfl⟩
  |goto l=>cases hf
  |panic c=>cases hf
  |outgrown=>cases hf
 ·rintro g' W' _ ⟨fr',τ,d,rfl,e,a',hq,harr⟩;exact⟨e,a',τ,d,hq,harr⟩
theorem mg(T:Quiet P){c:gZ}(hQ : ∀e a w,Q e a w→sD e=true)(h : ∀τ d,c.wp P Q a (cX W τ d)):nN P c Q a W:=fun b k cs hb hL=>
 ym T hb hL hQ fun τ=>h τ 0 b k cs
theorem mV(T:Quiet P){ops:Array cU}{l:List Nat}(hQ : ∀e a w,Q e a w→sD e=true)(h : ∀τ d,wpOps P ops Q l a (cX W τ d)):ic P ops Q l a W:=fun b k cs hb hL=>
 ym T hb hL hQ fun τ=>wp_ops l a _ (h τ 0) b k cs
theorem Tk{c:gZ}{τ:Nat→Question→Nat}{d:Nat}(h:nN P c Q a (cX W τ d)):nN P c Q a W:=fun b k cs hb hL=>(h b k cs hb hL).ofT
theorem jU(T:Quiet P){R:Goroutine→ar→Prop}{fr fr':bP}(h : ∀w,step P (lone fr cs w)=.next (lone fr' cs w))(hk:jo P R (G fr' cs) W):jo P R (G fr cs) W:=
 (xk T (τ:=W.tape) (d:=W.drawn) (rD (h _))).bind fun g' W' hs hq=>by
  obtain⟨rfl,τ,d,rfl⟩:=hq;exact hk.Oy τ d
theorem jD(T:Quiet P){x y:gZ}(h:nN P x (Exit.then (fun a w=>nN P y Q a w) Q) a W):nN P (.seq x y) Q a W:=by
 intro b k cs hb hL;refine jU T (fun w=>step_seq) ?_;refine(h b (.code y :: k) cs hb fun id a w hq=>hL id a w hq).bind fun g' W' hs hq=>?_;obtain⟨e,a',τ,d,hq,harr⟩:=hq;cases e with
 |normal=>
  subst harr;exact(hq b k cs hb hL).ofT
 |exit id=>
  obtain⟨k',hk,rfl⟩:=harr;exact .here ⟨.exit id,a',τ,d,hq,k',hk,rfl⟩
 |ret=>
  obtain⟨todo,rfl⟩:=harr;exact .here ⟨.ret,a',τ,d,hq,todo,rfl⟩
 |goto l=>exact harr.elim
 |panic c=>exact harr.elim
 |outgrown=>exact harr.elim
theorem NU(T:Quiet P){x y:gZ}(hQ : ∀e a w,e≠.normal→Q e a w→sD e=true)(h : ∀τ d,x.wp P (Exit.then (fun a w=>nN P y Q a w) Q) a (cX W τ d)):nN P (.seq x y) Q a W:=
 jD T (mg T (fun e a w hq=>by cases e<;>first|rfl|exact hQ _ _ _ (by simp) hq) h)
theorem m8(T:Quiet P){c:Operand}{x y:gZ}{t:Bool}(hc:a.eval c=.bool t)(h:nN P (if t then x else y) Q a W):nN P (.cond c x y) Q a W:=fun b k cs hb hL=>
 jU T (fun w=>step_cond hc) (h b k cs hb hL)
theorem nR(T:Quiet P){id:Nat}{ops:Array cU}(h:ic P ops Q (bf ops.size) a W):nN P (.region id ops false) Q a W:=fun b k cs hb hL=>
 jU T (fun w=>step_region) (h b k cs hb hL)
theorem QO{ops:Array cU}{i:Nat}{rest:List Nat}{o:cU}(ho:ops[i]?=some o){w:ar}(hw:dQ o (yielded ops a.tmps)=true){next:Act→ar→Prop}
  (h:o.wp P a w next fun _ _ _=>False) : ∃a' w',next a' w'∧Steps P (lone (b.at a (.inRegion ops (i :: rest) :: k)) cs w) (lone (b.at a' (.inRegion ops rest :: k)) cs w'):=by
 simp only[Oper.wp,Oper.upon] at h;have hg:=stepG_op (P:=P) (b:=b) (k:=k) (cs:=cs) (w:=w) (rest:=rest) ho hw
 have nH : ∀v,(b.at a (.inRegion ops (i :: rest) :: k)).finish v=b.at (a.put o.dst v) (.inRegion ops rest :: k):=by
  intro v;rw[Frame.finish_at,ho];rfl
 split at h
 ·rename_i v w' hr;refine⟨_,_,h,.one (step_lone_go ?_)⟩;rw[hg,←nH];simp[eE,hr]
 ·rename_i w' hr;refine⟨_,_,h,.one (step_lone_go ?_)⟩;rw[hg,←nH];simp[eE,hr]
 ·rename_i d w' hr;refine⟨_,_,h,.one (step_lone_go ?_)⟩
  have:({ b.at a (.inRegion ops (i :: rest) :: k) with defers:=d :: a.defers }:bP).finish af =
    b.at ({ a with defers:=d :: a.defers }.put o.dst af) (.inRegion ops rest :: k):=by
   have:=Frame.finish_at b { a with defers:=d :: a.defers } ops i rest k af;rw[ho] at this;exact this
  rw[hg];simp only[eE,Sem.runT_eq,hr,GStep.bare_after];exact congrArg (fun fr=>GStep.go { frame:=fr,callers:=cs,status:=.running,dying:=none } w') this
 ·rename_i f args w' hr;obtain⟨e,w'',fr,hR,LS,_,W7⟩:=h (b.at a (.inRegion ops (i :: rest) :: k) :: cs)
  have tS:step P (lone (b.at a (.inRegion ops (i :: rest) :: k)) cs w)=.next (lone (eH P f args .normal) (b.at a (.inRegion ops (i :: rest) :: k) :: cs) w'):=
   step_lone_go (by rw[hg];simp[eE,hr,Frame.at])
  cases e with
  |returned v=>
   refine⟨_,_,hR,.head tS (LS.trans (.one ?_))⟩;rw[←nH];exact step_leave_returned W7
  |panicked chain=>exact hR.elim
  |outgrown=>obtain⟨_,_,h0⟩:=hR;exact h0.elim
 ·rename_i row args w' hr;obtain⟨v,w'',hR,LS⟩:=h (b.at a (.inRegion ops (i :: rest) :: k)) cs
  have tS:step P (lone (b.at a (.inRegion ops (i :: rest) :: k)) cs w)=.next (lone (Frame.ofRow P row args .normal) (b.at a (.inRegion ops (i :: rest) :: k) :: cs) w'):=
   step_lone_go (by rw[hg];simp[eE,hr,Frame.at])
  refine⟨_,_,hR,.head tS ?_⟩;rw[←nH];exact LS
 ·exact h.elim
 ·exact h.elim
theorem fU(T:Quiet P){ops:Array cU}{i:Nat}{rest:List Nat}{o:cU}(ho:ops[i]?=some o)(hw:dQ o (yielded ops a.tmps)=true)
  (h : ∀τ d,o.wp P a (cX W τ d) (fun a' w'=>ic P ops Q rest a' w') fun _ _ _=>False):ic P ops Q (i :: rest) a W:=by
 intro b k cs hb hL;refine(Bf T (Q:=fun fr' W'=>∃a',fr'=b.at a' (.inRegion ops rest :: k)∧ic P ops Q rest a' W') fun τ=>?_).bind ?_
 ·obtain⟨a',w',hn,hs⟩:=QO (b:=b) (k:=k) (cs:=cs) (rest:=rest) ho hw (h τ 0);exact⟨_,w',hs,a',rfl,hn⟩
 ·rintro g' W' _ ⟨fr',τ,d,rfl,a',rfl,hn⟩;exact(hn b k cs hb hL).ofT
theorem Jc(T:Quiet P){ops:Array cU}{i:Nat}{rest:List Nat}{o:cU}(ho:ops[i]?=some o)(hw:dQ o (yielded ops a.tmps)=false)(h:ic P ops Q rest (a.put o.dst af) W):ic P ops Q (i :: rest) a W:=by
 intro b k cs hb hL;refine jU T (fun w=>step_op_skip (by simp[ho,hw])) ?_;have e:(ops[i]?).bind (·.dst)=o.dst:=by rw[ho];rfl
 rw[e];exact h b k cs hb hL
theorem mW(T:Quiet P){ops:Array cU}{i:Nat}{rest:List Nat}{o:cU}(ho:ops[i]?=some o)(hw:dQ o (yielded ops a.tmps)=true){f:FuncId}{args:Array ak}(he : ∀w,(execOp a.eval o).run P w=.ok (.enter f args) w)
  {R:ak→ar→Prop} (hc:j6 P f args W R) (h : ∀v W',W.heap.size≤W'.heap.size→R v W'→ic P ops Q rest (a.put o.dst v) W'):ic P ops Q (i :: rest) a W:=by
 intro b k cs hb hL
 have tS : ∀w,step P (lone (b.at a (.inRegion ops (i :: rest) :: k)) cs w)=.next (lone (eH P f args .normal) (b.at a (.inRegion ops (i :: rest) :: k) :: cs) w):=fun w=>by
  have hg:=stepG_op (P:=P) (b:=b) (k:=k) (cs:=cs) (w:=w) (rest:=rest) ho hw;exact step_lone_go (by rw[hg];simp[eE,he w,Frame.at])
 refine(xk T (τ:=W.tape) (d:=W.drawn) (rD (tS _))).bind fun g' W' hs hq=>?_;obtain⟨rfl,τ,d,rfl⟩:=hq;refine jo.Oy ?_ τ d;refine(hc (b.at a (.inRegion ops (i :: rest) :: k) :: cs)).bind fun g2 W2 hs2 Rm=>?_;obtain⟨fr,v,τ2,d2,rfl,hv,hfn,hl⟩:=Rm;refine(G6 T hl).bind fun g3 W3 hs3 hq3=>?_;obtain⟨rfl,τ3,d3,rfl⟩:=hq3
 have nH:(b.at a (.inRegion ops (i :: rest) :: k)).finish v=b.at (a.put o.dst v) (.inRegion ops rest :: k):=by
  rw[Frame.finish_at,ho];rfl
 rw[nH];exact jo.Oy (h v W2 hs2 hv b k cs hb hL) τ3 d3
def F4(P:aN)(fn:Func)(R:ak→ar→Prop):Exit→Act→ar→Prop
 |.normal,a,w|.ret,a,w=>a.defers=[]∧∃v,(results fn a.tmps).run P w=.ok v w∧R v w
 |_,_,_=>False
theorem bm{fn:Func}{R:ak→ar→Prop} : ∀e a w,F4 P fn R e a w→sD e=true:=fun e a w h=>by cases e<;>first|rfl|exact h.elim
theorem xl{fn:Func}{R:ak→ar→Prop}{c:gZ}{w:ar}(h:c.wp P (bodyPost P fn fun e w'=>∃v,e=.returned v∧R v w') a w):c.wp P (F4 P fn R) a w:=by
 refine AP h fun e a w hq=>?_;cases e with
 |normal=>obtain⟨h1,v,h2,v',h3,h4⟩:=hq;cases h3;exact⟨h1,v,h2,h4⟩
 |ret=>obtain⟨h1,v,h2,v',h3,h4⟩:=hq;cases h3;exact⟨h1,v,h2,h4⟩
 |panic chain=>obtain⟨_,v,h3,_⟩:=hq;cases h3
 |exit id=>exact hq.elim
 |goto l=>exact hq.elim
 |outgrown=>obtain⟨v,h3,_⟩:=hq;cases h3
theorem kZ(T:Quiet P){f:FuncId}{fn:Func}{c:gZ}{args:Array ak}{R:ak→ar→Prop}(hf:P.funcs[f]?=some fn)(hb:fn.body=some c)(hR : ∀v W' τ d,R v (cX W' τ d)→R v W')
  (h:nN P c (F4 P fn R) { tmps:=args ++ aU (fn.ntmps - args.size) af,defers:=[] } W):j6 P f args W R:=by
 intro cs;let b:Frame:={ (default:bP) with fn:=f,kind:=.normal }
 have tS:eH P f args .normal=b.at { tmps:=args ++ aU (fn.ntmps - args.size) af,defers:=[] } [.code c]:=by
  simp[eH,Frame.at,hf,hb,b]
 rw[tS];refine(h b [] cs (by simp[b]) fun id a w hq=>hq.elim).bind fun g' W' hs hq=>?_;obtain⟨e,a',τ,d,hq,harr⟩:=hq;cases e with
 |normal=>
  subst harr;obtain⟨hd,v,hr,hv⟩:=hq;refine jU T (fun w=>step_end) (.here ⟨_,v,τ,d,rfl,hR _ _ _ _ hv,rfl,rfl,hd,rfl,fn,hf,hr⟩)
 |ret=>
  obtain⟨todo,rfl⟩:=harr;obtain⟨hd,v,hr,hv⟩:=hq;exact .here ⟨_,v,τ,d,rfl,hR _ _ _ _ hv,rfl,rfl,hd,rfl,fn,hf,hr⟩
 |exit id=>exact harr.elim fun _ h=>hq.elim
 |goto l=>exact harr.elim
 |panic c=>exact harr.elim
 |outgrown=>exact harr.elim
end
structure Old(W W':ar):Prop where
 os:W'.os=W.os
 output:W'.output=W.output
 size:W.heap.size≤W'.heap.size
 block : ∀k,k<W.heap.size→W'.heap[k]?=W.heap[k]?
theorem Old.refl(W:ar):Old W W:=⟨rfl,rfl,ay _,fun _ _=>rfl⟩
theorem Old.trans{a b c:ar}(h:Old a b)(k:Old b c):Old a c:=⟨k.os.trans h.os,k.output.trans h.output,bq h.size k.size,fun i hi=>(k.block i (bE hi h.size)).trans (h.block i hi)⟩
theorem Old.of_below{W W':ar}(h:RowKit.Below W.heap.size W W'):Old W W':=⟨h.os,h.output,h.size,h.block⟩
theorem Old.Oy{W W':ar}(h:Old W W')(τ:Nat→Question→Nat)(d:Nat)(τ':Nat→Question→Nat)(d':Nat):Old (cX W τ d) (cX W' τ' d'):=⟨h.os,h.output,h.size,h.block⟩
theorem Old.cell{W W':ar}(h:Old W W'){a:Addr}(ha:a.block<W.heap.size):W'.cell? a=W.cell? a:=jd (h.block _ ha)
theorem yf[uy]{W w:ar}(V:jy W w){k:Nat}{o:Obj}(h:W.heap[k]?=some o)(ho:dY o=true):w.heap[k]?=some o:=by
 rcases V.at_ k with e|⟨e,_⟩
 ·rw[←e];exact h
 ·rw[e] at h;cases h;cases ho
theorem Ra[K:uy]{W w w':ar}(V:jy W w)(cZ:dD W)(os:w'.os=w.os)(out:w'.output=w.output)(sz:w.heap.size≤w'.heap.size)(n:Nat)(hκ : ∀b o,b<W.heap.size→w'.heap[b]?=some o→dY o=false→w.heap[b]?=some o)(hk : ∀k,k<n→w'.heap[k]?=w.heap[k]?) :
  ∃W',jy W' w'∧dD W'∧W'.os=W.os∧W'.output=W.output∧W.heap.size≤W'.heap.size∧(∀k,k<n→k<W.heap.size→W'.heap[k]?=W.heap[k]?)∧∀(b:Nat) (o:Obj),w'.heap[b]?=some o→dY o=true→W'.heap[b]?=some o:=by
 obtain⟨W',hV,rE,_,_,nx⟩:=Bz w' fun b x h=>⟨by have:=V.old b x h;have:=V.size;omega,fun o h1 h2=>by
  have h3:=V.old b x h;replace h1:=hκ b o h3 h1 h2
  have h4:W.heap[b]?=some (.coro none):=by
   rcases V.at_ b with e|⟨e,_⟩
   ·rw[h1] at e;rcases cZ b o e with h5|h5
    ·rw[h5] at h2;cases h2
    ·rw[e,h5]
   ·exact e
  have h5:=V.kept b x h h4
  rw[h1] at h5;exact bt h5⟩
 refine⟨W',hV,rE,hV.os.trans (os.trans V.os.symm),hV.out.trans (out.trans V.out.symm),by rw[hV.size,V.size];exact sz,fun k rF hk2=>?_,nx⟩;have tv:=hk k rF;obtain⟨o,ho⟩ : ∃o,W.heap[k]?=some o:=⟨_,aR hk2⟩
 rw[ho];rcases cZ k o ho with h1|rfl
 ·exact nx k o (by rw[tv];exact yf V ho h1) h1
 ·
  rcases V.at_ k with e|⟨_,x,hx,lx⟩
  ·have hw':w'.heap[k]?=some (.coro none):=by rw[tv,←e];exact ho
   rcases hV.at_ k with e2|⟨e2,_⟩
   ·rw[e2];exact hw'
   ·exact e2
  ·have hw':w'.heap[k]?=some x:=by rw[tv];exact hx
   rcases hV.at_ k with e2|⟨e2,_⟩
   ·rw[hw'] at e2;rcases rE k x e2 with h|h
    ·rw[h] at lx;cases lx
    ·rw[e2,h]
   ·exact e2
section
variable{P:aN}{b:bP}{k:List Item}{cs:List bP}{W:ar}{R:Goroutine→ar→Prop}
theorem oJ(T:Quiet P){c:gZ}{a:Act}(hb:b.kind≠.early){Q:Act→ar→Prop}(h : ∀τ d,c.wp P (fun e a W'=>e=.normal∧Q a W') a (cX W τ d))
  (hk : ∀a' W' τ d,Q a' (cX W' τ d)→jo P R (G (b.at a' k) cs) W'):jo P R (G (b.at a (.code c :: k)) cs) W:=by
 refine(ym T (m:=.code c :: k) (Q:=fun e a W'=>e=.normal∧Q a W') hb (fun id a w hq=>by cases hq.1) (fun e a w hq=>by rw[hq.1];rfl) fun τ=>h τ 0 b k cs).bind fun g' W' hs hq=>?_;obtain⟨e,a',τ,d,⟨rfl,hq⟩,harr⟩:=hq;subst harr;exact hk a' W' τ d hq
end
open Go Go.Conc Go.RowKit Go.ChangeShapes
section
variable{H:Type}{enc:TypeId × ak→H}
theorem JO{a:Assume}{C:Checked}{os:Os}{f:FuncId}{fn:Func}{s:ChangeSpec}{conds:List PathCond}{apart fresh handsOn again:Bool}{X:ar→Array ak→Prop}
  (hX : ∀(w w':ar) (args:Array ak),w.heap=w'.heap→X w args→X w' args)
  (own:ownKnob C.prog.godebug=none) (started:os.Started) (hfn:C.prog.funcs[f]?=some fn)
  (witness : ∃(w:ar) (tape:Tape) (i:Input),w.os=os∧(w.forCall tape i).Shaped C.prog∧i.vars=[]∧Input.okWide C.prog (w.forCall tape i) .any w.heap.size f i∧
   ((s.pre enc C.prog fn conds apart (w.forCall tape i).memory i.args∧X (w.forCall tape i).memory i.args)∧sizedMet enc C.prog fn (OpenSpec.ofChange s) apart (w.forCall tape i).memory i.args)∧a.holds C.prog (lone (eH C.prog f i.args .normal) [] (w.forCall tape i)))
  (runs : ∀(W:ar) (base:Nat) (args:Array ak) (ds gs:List (DataW H)) (before:List MemPlace),
   (∀(j:Nat) t v,fn.params[j]?=some t→args[j]?=some v→Value.okWide C.prog W .any base t v)→
   DataW.Whole enc C.prog fn.params.toList s.vars apart W args.toList ds gs before→X W args→
   ∃M last o w' t',runNT C.prog (M+1) (solo (G (eH C.prog f args .normal) []) W) #[]=(.ended o w',t')∧runN C.prog M (solo (G (eH C.prog f args .normal) []) W)=.next last∧
    step C.prog last=.ended o w'∧Conc.Good C.prog (fun v W'=>s.post enc C.prog fn apart fresh handsOn again W args v W') last o w' t') :
  ReturnsInLeavingWide a C os f .any (fun w args=>(s.pre enc C.prog fn conds apart w args∧X w args)∧sizedMet enc C.prog fn (OpenSpec.ofChange s) apart w args) (s.post enc C.prog fn apart fresh handsOn again):=by
 refine returnsInLeavingWide_of_good own started witness ?_;intro w tape i _ _ _ cZ hpre adC;obtain⟨_,_,_,fn',adJ,_,_,_,_,hval⟩:=cZ;have e:fn'=fn:=bt (adJ.symm.trans hfn);subst e;obtain⟨⟨⟨ds,gs,before,hw,hc⟩,hx⟩,hz⟩:=hpre;have hw':=DataW.Whole.of_heap (w':=w.forCall tape i) (by rfl) hw;obtain⟨M,last,o,w',t',h1,h2,h3,h4⟩:=runs (w.forCall tape i) w.heap.size i.args ds gs before hval hw' (hX _ _ _ (by rfl) hx);exact⟨M,last,o,w',t',h1,h2,h3,h4.mono fun v hp=>ChangeSpec.post_blind hp⟩
theorem wJ{P:aN}(hl:laidOutB P=true){W W':ar}(hb:Below W.heap.size W W') : ∀ {ts:List TypeId} {vs:List ak} {ds:List (DataW H)} {p:List MemPlace},(∀t∈ts,P.readableRec t=true∧t<P.types.size)→(∀x∈p,x.block<W.heap.size)→
  DataW.TrodAll enc P W 0 (fun _=>true) true ts vs ds p→DataW.TrodAll enc P W' 0 (fun b=>decide (b<W.heap.size)) true ts vs ds p
 |[],[],[],p,_,_,h=>h
 |t :: ts,v :: vs,d :: ds,ps,ht,hp,h=>by
  obtain⟨p,q,h1,h2,rfl⟩:=h;exact⟨p,q,Below.trod hl (ht t (by simp)).1 (ht t (by simp)).2 h1 hb fun x hx=>hp x (by simp[hx]),wJ hl hb (fun t h=>ht t (by simp[h])) (fun x hx=>hp x (by simp[hx])) h2,rfl⟩
 |[],[],_ :: _,_,_,_,h=>h.elim
 |[],_ :: _,_,_,_,_,h=>h.elim
 |_ :: _,[],_,_,_,_,h=>h.elim
 |_ :: _,_ :: _,[],_,_,_,h=>h.elim
theorem QC{P:aN}{fn:Func}{s:ChangeSpec}{apart:Bool}{W w':ar}{args:Array ak}{ds gs:List (DataW H)}{before:List MemPlace}{tb:TypeId}(hl:laidOutB P=true)(Vb:s.vars=[])(T6 : ∀t∈fn.params.toList,P.readableRec t=true∧t<P.types.size)
  (hres:fn.resultTypes = #[tb]) (aay:P.underlying tb=some .bool) (hW:DataW.Whole enc P fn.params.toList s.vars apart W args.toList ds gs before) (hfn : ∀X8:List (DataW H),X8.length=fn.params.size→s.fn H X8={ results:=[.lit (.bool true)],args:=X8 })
  (hlen:ds.length=fn.params.size) (hb:Below W.heap.size W { w' with tape:=W.tape }):s.post enc P fn apart true false false W args (.bool true) w':=by
 refine ChangeSpec.post_alike (W'':={ w' with tape:=W.tape }) ?_ ⟨rfl,rfl,rfl⟩;have hW':=hW;obtain⟨p,q,hA,hV,rfl,_,_⟩:=hW
 have qA:gs=[]∧q=[]:=by
  rw[Vb] at hV;cases gs with
  |nil=>exact⟨rfl,hV⟩
  |cons=>exact hV.elim
 obtain⟨rfl,rfl⟩:=qA;have hlt : ∀x∈p,x.block<W.heap.size:=fun x hx=>hW'.lt x (by simp[hx]);refine⟨ds,[],p ++ [],[],p,[],hW',?_,?_,?_,hb.frame _,fun h=>by cases h⟩
 ·rw[List.append_nil,hfn ds hlen,hres];exact trodAll_mk1 (shut_bool aay _)
 ·rw[List.append_nil,hfn ds hlen];exact wJ hl hb T6 hlt hA
 ·rw[List.append_nil,hfn ds hlen,Vb];rfl
end
theorem Df{P:aN}(T:Quiet P){f:FuncId}{args:Array ak}{v0:ak}(hi:P.inits.idxOf? f=none)(W:ar)
  (h : ∀Wk:ar,Wk.heap.size=W.heap.size→(∀(b:Nat) (o:Obj),W.heap[b]?=some o→dY o=true→Wk.heap[b]?=some o)→j6 P f args Wk fun v W'=>v=v0∧Old Wk W') :
  ∃M last o w' t',runNT P (M+1) (solo (G (eH P f args .normal) []) W) #[]=(.ended o w',t')∧runN P M (solo (G (eH P f args .normal) []) W)=.next last∧
   step P last=.ended o w'∧Conc.Good P (fun v w'=>v=v0∧Below W.heap.size W { w' with tape:=W.tape }) last o w' t':=by
 letI K:uy:=⟨fun b=>W.heap[b]?⟩
 obtain⟨Wk,V,cZ,-,-,hk⟩:=Bz W fun b x hx=>⟨(Array.getElem?_eq_some_iff.1 hx).1,fun o ho _=>bt (ho.symm.trans hx)⟩
 obtain⟨M,last,o,w',t',h1,h2,h3,h4⟩:=Ed T hi (h Wk V.size hk) cZ V;refine⟨M,last,o,w',t',h1,h2,h3,h4.mono ?_⟩;rintro v ⟨W',⟨rfl,hold⟩,V',-,hs⟩;refine⟨rfl,V'.os.symm.trans (hold.os.trans V.os),rfl,V'.out.symm.trans (hold.output.trans V.out),?_,fun b hb=>?_⟩
 ·show W.heap.size≤w'.heap.size;rw[←V'.size,←V.size];exact hold.size
 ·show w'.heap[b]?=W.heap[b]?;obtain⟨o,ho⟩ : ∃o,W.heap[b]?=some o:=⟨_,aR hb⟩
  have yM:=hold.block b (by rw[V.size];exact hb);have Vr:W'.heap[b]?=some (.coro none)→w'.heap[b]?=W.heap[b]?:=fun e=>(V'.kept b o ho e).trans ho.symm;rcases V.at_ b with e|⟨e,-⟩
  ·rcases V'.at_ b with e'|⟨e',-⟩
   ·rw[←e',yM,e]
   ·exact Vr e'
  ·exact Vr (yM.trans e)
end Go.Lag
namespace Go.Proofs.YtffladgmkiimjaaGreatDoor
open Go Go.RowKit Go.Lag Go.ChangeShapes
theorem Tryz.own:ownKnob Tryz.prog.godebug=none:=by kernel_rfl
theorem Tryz.laidOut:laidOutB aq=true:=by kernel_rfl
theorem Sg(os:Os)(args:Array ak):laidMetH aq JQ ((World.doorLaid aq 400 os).forCall (fun _ _=>0) ⟨#[],args,[]⟩).memory:=
 laidMetH_of_parts3 (fuel:=8) (laidMet_of_run' 8 (by kernel_rfl) (by kernel_rfl)) (by kernel_rfl) (by kernel_rfl)
open Go.RowKit Go.Lag
open Go.Conc
noncomputable def Ny:Code:=.seq Fe (.seq (.block 2 (.loop K6)) wy)
theorem Ik(tmps:Array ak)(v:ak)(h2:tmps[2]?=some v)(w:ar)(h:tmps.size=71):(results kS tmps).run aq w=.ok v w:=by
 have e2:=bB h2;rw[tj tmps h];simp only[bf,bR,List.map_cons,List.map_nil,e2];simp[results,kS,go_sem]
theorem acz{tmps:Array ak}{v:ak}{W:ar}(hs:tmps.size=71)(h9:tmps[9]?=some v):wy.wp aq (fun e a W'=>e=.ret∧a.defers=[]∧a.tmps.size=71∧a.tmps[2]?=some v∧W'=W) ⟨tmps,[]⟩ W:=by
 have e9:=bB h9;rw[tj tmps hs];simp only[bf,bR,List.map_cons,List.map_nil,e9];simp only[wy,gN,qQ,kS,sL,sR];go_wp2
structure SX(P:aN)(b:BB)(men sent marks all:ak)(l:List eV)(ss:List Int)(ms:List Mk)(Y:Nat→Prop)(W:ar):Prop where
 e:P=aq
 f159:P.funcs[(159:Nat)]?=some kS
 f178:P.funcs[(178:Nat)]?=some Tryz.f178
 i159:P.inits.idxOf? 159=none
 i178:P.inits.idxOf? 178=none
 ok:b.Ok
 Yj : ∀a∈l,a.Ok
 FX : ∀s∈ss,1≤s∧s≤8
 Yz : ∀m∈ms,1≤m.minute∧m.minute≤8
 cl:Closed fw Y W
 low : ∀c,Y c→P.globals.size≤c
 tV:P.globals.size≤W.heap.size
 vm:VR fw (xr Y) men men
 vs:VR fw (xr Y) sent sent
 vk:VR fw (xr Y) marks marks
 va:VR fw (xr Y) all all
 rs:mK Y W sent ss.length (ss.map (Value.int .i64))
 rm:mK Y W marks ms.length (eN ms)
 ra:mK Y W all l.length (rowOf l)
theorem SX.lt{P:aN}{b:BB}{men sent marks all:ak}{l:List eV}{ss:List Int}{ms:List Mk}{Y:Nat→Prop}{W:ar}(G:SX P b men sent marks all l ss ms Y W){c:Nat}(hc:Y c):c<W.heap.size:=G.cl.lt hc
def SV(b:BB)(l:List eV)(ss:List Int)(ms:List Mk)(W:ar)(v:ak)(W':ar):Prop:=
 ∃kJ:List Nat,Reads W' v kJ.length (ints kJ)∧kJ.Perm (kg b (dw ss ms).toNat (bK ss) l 512)∧Old W W'
section
variable{P:aN}{b:BB}{men sent marks all:ak}{l:List eV}{ss:List Int}{ms:List Mk}{Y:Nat→Prop}{W W1:ar}{xb fb tb c0 c1 sn:Nat}{cs:List bP}
theorem RS{X:Nat→Prop}(hm:VR fw (xr X) men men)(hs:VR fw (xr X) sent sent)(hk:VR fw (xr X) marks marks)(ha:VR fw (xr X) all all)(hx:X xb)(hf:X fb)(ht:X tb) :
  iV fw (xr X) #[.agg (b.open men sent marks all),ptr ⟨xb,0,none⟩,.slice none 0 0,.int .i64 sn,ptr ⟨fb,0,none⟩,ptr ⟨tb,0,none⟩,.int .i64 0,af,af,af,af,ptr ⟨xb,0,none⟩,ptr ⟨xb,0,none⟩,ptr ⟨xb,13,none⟩,sent,.int .i64 sn,.chan (some c0),.chan (some c1),.int .i64 0,af,af,af,af,af,af,af,af,af,af,af,af,af,af,af,af,af,af,af,af,af,af,af,af,af,af,af,af,af,af,af,af,af,af,af,af,af,af,af,af,af,af,af,af,af,af,af,af,af,af,af,af] #[.agg (b.open men sent marks all),ptr ⟨xb,0,none⟩,.slice none 0 0,.int .i64 sn,ptr ⟨fb,0,none⟩,ptr ⟨tb,0,none⟩,.int .i64 0,af,af,af,af,ptr ⟨xb,0,none⟩,ptr ⟨xb,0,none⟩,ptr ⟨xb,13,none⟩,sent,.int .i64 sn,.chan (some c0),.chan (some c1),.int .i64 0,af,af,af,af,af,af,af,af,af,af,af,af,af,af,af,af,af,af,af,af,af,af,af,af,af,af,af,af,af,af,af,af,af,af,af,af,af,af,af,af,af,af,af,af,af,af,af,af,af,af,af,af]:=by
 have PU : ∀a:Addr,X a.block→VR fw (xr X) (ptr a) (ptr a):=fun a ha=>.ptr ⟨vh ha,rfl,rfl⟩
 have hagg:VR fw (xr X) (.agg (b.open men sent marks all)) (.agg (b.open men sent marks all)):=by
  refine .agg rfl fun i x y hi hj=>?_;rw[hi] at hj;cases hj;have hmem:=fF hi;simp only[BB.open,BB.cells,jJ,iG,fB,bJ,cC,eR,or_false,iM,kx] at hmem;rcases hmem with rfl|rfl|rfl|rfl|rfl|rfl|rfl|rfl|rfl|rfl|rfl|rfl|rfl|rfl|rfl|rfl<;>first|exact .int _ _|assumption
 have hall : ∀v∈(#[.agg (b.open men sent marks all),ptr ⟨xb,0,none⟩,.slice none 0 0,.int .i64 sn,ptr ⟨fb,0,none⟩,ptr ⟨tb,0,none⟩,.int .i64 0,af,af,af,af,ptr ⟨xb,0,none⟩,ptr ⟨xb,0,none⟩,ptr ⟨xb,13,none⟩,sent,.int .i64 sn,.chan (some c0),.chan (some c1),.int .i64 0,af,af,af,af,af,af,af,af,af,af,af,af,af,af,af,af,af,af,af,af,af,af,af,af,af,af,af,af,af,af,af,af,af,af,af,af,af,af,af,af,af,af,af,af,af,af,af,af,af,af,af,af]:Array ak),VR fw (xr X) v v:=by
  intro v hv;simp only[fB,cC,eR,or_false] at hv;have hu:VR fw (xr X) af undef:=tH;rcases hv with rfl|rfl|rfl|rfl|rfl|rfl|rfl|rfl|rfl|rfl|rfl|rfl|rfl|rfl|rfl|rfl|rfl|rfl|rfl|rfl|rfl|rfl|rfl|rfl|rfl|rfl|rfl|rfl|rfl|rfl|rfl|rfl|rfl|rfl|rfl|rfl|rfl|rfl|rfl|rfl|rfl|rfl|rfl|rfl|rfl|rfl|rfl|rfl|rfl|rfl|rfl|rfl|rfl|rfl|rfl|rfl|rfl|rfl|rfl|rfl|rfl|rfl|rfl|rfl|rfl|rfl|rfl|rfl|rfl|rfl|rfl<;>first|exact hu|exact .int _ _|exact .DG _ _|exact .chan _|exact PU _ hx|exact PU _ hf|exact PU _ ht|assumption
 exact⟨rfl,fun i x y hi hj=>by rw[hi] at hj;cases hj;exact hall x (fF hi)⟩
end
theorem Uv:iY (.code wy)=true:=by kernel_rfl
theorem Reads.keep{w w':ar}{v:ak}{n:Nat}{xs:List ak}(h:Reads w v n xs)(hs:w.heap.size≤w'.heap.size)(hk : ∀(g:Nat) cs e z,w.heap[g]?=some (.cells cs e z)→w'.heap[g]?=some (.cells cs e z)):Reads w' v n xs:=by
 rcases h with h|⟨g,off,cap,h1,h2,h3,h4⟩
 ·exact .inl h
 ·refine .inr ⟨g,off,cap,h1,h2,bE h3 hs,fun j u hj=>?_⟩;have hc:=h4 j u hj;unfold dU at hc ⊢;cases ho:w.heap[g]? with
  |none=>simp only[ho] at hc;cases hc
  |some o=>
   cases o with
   |cells cs e z=>simp only[hk g cs e z ho];simpa only[ho] using hc
   |_=>simp only[ho] at hc;cases hc
theorem Reads.old{w w':ar}{v:ak}{n:Nat}{xs:List ak}(h:Reads w v n xs)(ho:Old w w'):Reads w' v n xs:=
 h.keep ho.size fun g cs e z hg=>(ho.block g (eY hg)).trans hg
section
variable{P:aN}{b:BB}{men sent marks all:ak}{l:List eV}{ss:List Int}{ms:List Mk}{Y:Nat→Prop}{W W1:ar}{xb fb tb c0 c1:Nat}{cs:List bP}
theorem RO(e:P=aq)(hf:P.funcs[(159:Nat)]?=some kS){R:ak→ar→Prop}{tmps:Array ak}{v:ak}(hs:tmps.size=71)(h9:tmps[9]?=some v)(hR:R v W) :
  jo P (fun g' W'=>∃fr v τ d,g'=G fr cs∧R v W∧W'.heap=W.heap∧W'.os=W.os∧W'.output=W.output∧fr.fn=159∧fr.leaving P (cX W' τ d) (.returned v)) (GK 159 tmps [.code wy] .normal cs) W:=by
 have T:=quiet_of e;refine(ym T (b:={ (default:bP) with fn:=159,kind:=.normal }) (a:=⟨tmps,[]⟩) (k:=[]) (m:=[.code wy]) (cs:=cs) (W:=W) (Q:=fun e a W'=>e=.ret∧a.defers=[]∧a.tmps.size=71∧a.tmps[2]?=some v∧W'.heap=W.heap∧W'.os=W.os∧W'.output=W.output) (by simp) (fun id a w hq=>by cases hq.1) (fun e a w hq=>by rw[hq.1];rfl) fun τ=>?_).bind fun g' W' hsz hq=>?_
 ·have h:=acz (W:=cX W τ 0) hs h9;rw[←e] at h
  have h2:wy.wp P (fun e a W'=>e=.ret∧a.defers=[]∧a.tmps.size=71∧a.tmps[2]?=some v∧W'.heap=W.heap∧W'.os=W.os∧W'.output=W.output) ⟨tmps,[]⟩ (cX W τ 0):=
   AP h fun e a W' hq=>⟨hq.1,hq.2.1,hq.2.2.1,hq.2.2.2.1,by rw[hq.2.2.2.2];rfl,by rw[hq.2.2.2.2];rfl,by rw[hq.2.2.2.2];rfl⟩
  exact h2 { (default:bP) with fn:=159,kind:=.normal } [] cs
 ·obtain⟨e1,a',τ,d,⟨rfl,hd,hsz',h2,hh,ho,hu⟩,todo,rfl⟩:=hq;refine .here ⟨_,v,τ,d,rfl,hR,hh,ho,hu,rfl,rfl,hd,rfl,kS,hf,?_⟩;rw[e];exact Ik _ v h2 _ hsz'
theorem Mg(G0:SX P b men sent marks all l ss ms Y W)(hold:Old W W1)(hx:W1.heap[xb]?=some (.cells (b.open men sent marks all) 122 (0,0)))(hf:W1.heap[fb]?=some (.cells #[.chan (some c0)] 188 (0,0)))(ht:W1.heap[tb]?=some (.cells #[.chan (some c1)] 189 (0,0)))
  (hc0:Chan c0 W1) (hc1:Chan c1 W1) (hne:c0≠c1) (hl:W.heap.size≤c0∧W.heap.size≤c1∧W.heap.size≤fb∧W.heap.size≤tb∧W.heap.size≤xb) {sn:Nat} (OS:bK ss=sn) :
  jo P (fun g' W'=>∃fr v τ d,g'=G fr cs∧SV b l ss ms W v W'∧fr.fn=159∧fr.leaving P (cX W' τ d) (.returned v)) (GK 159 #[.agg (b.open men sent marks all),ptr ⟨xb,0,none⟩,.slice none 0 0,.int .i64 sn,ptr ⟨fb,0,none⟩,ptr ⟨tb,0,none⟩,.int .i64 0,af,af,af,af,ptr ⟨xb,0,none⟩,ptr ⟨xb,0,none⟩,ptr ⟨xb,13,none⟩,sent,.int .i64 sn,.chan (some c0),.chan (some c1),.int .i64 0,af,af,af,af,af,af,af,af,af,af,af,af,af,af,af,af,af,af,af,af,af,af,af,af,af,af,af,af,af,af,af,af,af,af,af,af,af,af,af,af,af,af,af,af,af,af,af,af,af,af,af,af] [.code (.block 0 (.loop Ih)),.code Ny] .normal cs) W1:=by
 intro K hg cZ w V;have Yy : ∀ {k:Nat} {cs:Array ak} {e:TypeId} {z:Nat × Nat},W1.heap[k]?=some (.cells cs e z)→w.heap[k]?=some (.cells cs e z):=fun h=>yf V h rfl;have hW : ∀(k:Nat) (o:Obj),W.heap[k]?=some o→dY o=true→w.heap[k]?=some o:=fun k o h ho=>yf V ((hold.block k (eY h)).trans h) ho;obtain⟨X0,Tc⟩ : ∃X0:Nat→Prop,X0=fun c=>Y c∨c=xb∨c=fb∨c=tb:=⟨_,rfl⟩
 have YI : ∀c,Y c→X0 c:=fun c hc=>by rw[Tc];exact .inl hc
 have hxX:X0 xb:=by rw[Tc];exact .inr (.inl rfl)
 have hfX:X0 fb:=by rw[Tc];exact .inr (.inr (.inl rfl))
 have htX:X0 tb:=by rw[Tc];exact .inr (.inr (.inr rfl))
 have hvm:=G0.vm.mono (su YI);have Va:=G0.vs.mono (su YI);have WI:=G0.vk.mono (su YI);have hva:=G0.va.mono (su YI)
 have hcell : ∀a:Addr,Y a.block→w.cell? a=W.cell? a:=fun a ha=>by
  obtain⟨cs,e,z,h1,_⟩:=G0.cl _ ha;exact jd ((hW _ _ h1 rfl).trans h1.symm)
 have mC : ∀ {v:ak} {n:Nat} {xs:List ak},mK Y W v n xs→mK X0 w v n xs:=fun h=>by
  rcases h with h|⟨g,off,cap,h1,h2,h3,h4⟩
  ·exact .inl h
  ·exact .inr ⟨g,off,cap,h1,h2,YI g h3,fun j u hj=>(hcell ⟨g,off+j,none⟩ h3).trans (h4 j u hj)⟩
 have hcl:Closed fw X0 w:=by
  intro c hc;rw[Tc] at hc;rcases hc with hc|rfl|rfl|rfl
  ·obtain⟨cs,e,z,h1,h2⟩:=G0.cl c hc;exact⟨cs,e,z,hW _ _ h1 rfl,fun v hv=>(h2 v hv).mono (su YI)⟩
  ·refine⟨_,_,_,Yy hx,fun v hv=>?_⟩;simp only[BB.open,BB.cells,jJ,iG,fB,bJ,cC,eR,or_false,iM,kx] at hv;rcases hv with rfl|rfl|rfl|rfl|rfl|rfl|rfl|rfl|rfl|rfl|rfl|rfl|rfl|rfl|rfl|rfl<;>first|exact .int _ _|assumption
  ·exact⟨_,_,_,Yy hf,fun v hv=>by simp at hv;subst hv;exact .chan _⟩
  ·exact⟨_,_,_,Yy ht,fun v hv=>by simp at hv;subst hv;exact .chan _⟩
 have hWs:W.heap.size≤w.heap.size:=by rw[←V.size];exact hold.size
 have Ua : ∀c,X0 c→P.globals.size≤c:=fun c hc=>by
  rw[Tc] at hc;have:=G0.tV;rcases hc with hc|rfl|rfl|rfl
  ·exact G0.low c hc
  all_goals omega
 have hcx : ∀i u,(b.open men sent marks all)[i]?=some u→w.cell? ⟨xb,i,none⟩=some u:=fun i u hi=>by
  unfold dU;rw[Yy hx];exact hi
 have E:MR P b men sent marks all l ss ms X0 w xb fb tb c0 c1:=
  ⟨G0.e,G0.f178,G0.i159,G0.i178,G0.ok,G0.Yj,G0.FX,G0.Yz,hcl,Ua,bq G0.tV hWs,hxX,hfX,htX,hcx,by unfold dU;rw[Yy hf];rfl,by unfold dU;rw[Yy ht];rfl,mC G0.rs,mC G0.rm,mC G0.ra⟩
 have PW:=RS (b:=b) (c0:=c0) (c1:=c1) (sn:=sn) hvm Va WI hva hxX hfX htX
 have JZ:MS P fw (fun c=>c<w.heap.size) X0 (fun _=>False) #[.agg (b.open men sent marks all),ptr ⟨xb,0,none⟩,.slice none 0 0,.int .i64 sn,ptr ⟨fb,0,none⟩,ptr ⟨tb,0,none⟩,.int .i64 0,af,af,af,af,ptr ⟨xb,0,none⟩,ptr ⟨xb,0,none⟩,ptr ⟨xb,13,none⟩,sent,.int .i64 sn,.chan (some c0),.chan (some c1),.int .i64 0,af,af,af,af,af,af,af,af,af,af,af,af,af,af,af,af,af,af,af,af,af,af,af,af,af,af,af,af,af,af,af,af,af,af,af,af,af,af,af,af,af,af,af,af,af,af,af,af,af,af,af,af] #[.agg (b.open men sent marks all),ptr ⟨xb,0,none⟩,.slice none 0 0,.int .i64 sn,ptr ⟨fb,0,none⟩,ptr ⟨tb,0,none⟩,.int .i64 0,af,af,af,af,ptr ⟨xb,0,none⟩,ptr ⟨xb,0,none⟩,ptr ⟨xb,13,none⟩,sent,.int .i64 sn,.chan (some c0),.chan (some c1),.int .i64 0,af,af,af,af,af,af,af,af,af,af,af,af,af,af,af,af,af,af,af,af,af,af,af,af,af,af,af,af,af,af,af,af,af,af,af,af,af,af,af,af,af,af,af,af,af,af,af,af,af,af,af,af] (shut X0 w) w (xr X0):=
  ⟨PW,M3 hcl Ua,E.tV,by rw[vI];exact E.tV,(FV hcl).symm,A3 hcl,M4⟩
 have st:St P X0 w X0 (fun _=>False) #[.agg (b.open men sent marks all),ptr ⟨xb,0,none⟩,.slice none 0 0,.int .i64 sn,ptr ⟨fb,0,none⟩,ptr ⟨tb,0,none⟩,.int .i64 0,af,af,af,af,ptr ⟨xb,0,none⟩,ptr ⟨xb,0,none⟩,ptr ⟨xb,13,none⟩,sent,.int .i64 sn,.chan (some c0),.chan (some c1),.int .i64 0,af,af,af,af,af,af,af,af,af,af,af,af,af,af,af,af,af,af,af,af,af,af,af,af,af,af,af,af,af,af,af,af,af,af,af,af,af,af,af,af,af,af,af,af,af,af,af,af,af,af,af,af] #[.agg (b.open men sent marks all),ptr ⟨xb,0,none⟩,.slice none 0 0,.int .i64 sn,ptr ⟨fb,0,none⟩,ptr ⟨tb,0,none⟩,.int .i64 0,af,af,af,af,ptr ⟨xb,0,none⟩,ptr ⟨xb,0,none⟩,ptr ⟨xb,13,none⟩,sent,.int .i64 sn,.chan (some c0),.chan (some c1),.int .i64 0,af,af,af,af,af,af,af,af,af,af,af,af,af,af,af,af,af,af,af,af,af,af,af,af,af,af,af,af,af,af,af,af,af,af,af,af,af,af,af,af,af,af,af,af,af,af,af,af,af,af,af,af] (shut X0 w) w (xr X0) (fun c=>c<w.heap.size):=⟨JZ,fun _ _ h=>h,fun c hc=>hcl.lt hc,fun c hc=>rfl,fun c hc=>rfl⟩
 have uM:GT xb fb tb (bK ss) #[.agg (b.open men sent marks all),ptr ⟨xb,0,none⟩,.slice none 0 0,.int .i64 sn,ptr ⟨fb,0,none⟩,ptr ⟨tb,0,none⟩,.int .i64 0,af,af,af,af,ptr ⟨xb,0,none⟩,ptr ⟨xb,0,none⟩,ptr ⟨xb,13,none⟩,sent,.int .i64 sn,.chan (some c0),.chan (some c1),.int .i64 0,af,af,af,af,af,af,af,af,af,af,af,af,af,af,af,af,af,af,af,af,af,af,af,af,af,af,af,af,af,af,af,af,af,af,af,af,af,af,af,af,af,af,af,af,af,af,af,af,af,af,af,af] (0:Nat) (0:Nat) undef:=by
  rw[OS];exact⟨rfl,rfl,rfl,rfl,rfl,rfl,rfl,rfl⟩
 have hM:=ZM (K:=[]) (cs:=cs) E 512 0 rfl X0 (fun _=>False) _ _ _ w _ _ _ st uM
 have XF:fS P c0 c1 (.int .i64 0) (.bool false) (UX (ints (kg b (dw ss ms).toNat (bK ss) l 512)) [] cs) 0 0 [] [] X0 (fun _=>False) (GK 159 #[.agg (b.open men sent marks all),ptr ⟨xb,0,none⟩,.slice none 0 0,.int .i64 sn,ptr ⟨fb,0,none⟩,ptr ⟨tb,0,none⟩,.int .i64 0,af,af,af,af,ptr ⟨xb,0,none⟩,ptr ⟨xb,0,none⟩,ptr ⟨xb,13,none⟩,sent,.int .i64 sn,.chan (some c0),.chan (some c1),.int .i64 0,af,af,af,af,af,af,af,af,af,af,af,af,af,af,af,af,af,af,af,af,af,af,af,af,af,af,af,af,af,af,af,af,af,af,af,af,af,af,af,af,af,af,af,af,af,af,af,af,af,af,af,af] [.code (.block 0 (.loop Ih)),.code Ny] .normal cs) w:=
  .ctl rfl rfl (qi _ _) rfl rfl (.ctl rfl rfl (Kv _) rfl rfl hM)
 have ZV:=XF.wide (w0:=w) (fun c=>c<w.heap.size∧c≠c0∧c≠c1) (fun c hc=>⟨hc.1,id,rfl⟩);have BH:Chan c0 w:=by obtain⟨s,tm,h⟩:=hc0;exact⟨s,tm,yf V h rfl⟩
 have BG:Chan c1 w:=by obtain⟨s,tm,h⟩:=hc1;exact⟨s,tm,yf V h rfl⟩
 refine(Hc hne ZV rfl BH BG (fun c hc=>?_) (fun c hc h=>h)).bind ?_
 ·rcases hc with(hc|hc)|hc
  ·obtain⟨cs,e,z,h1,_⟩:=hcl c hc;refine⟨eY h1,fun e=>?_,fun e=>?_⟩
   ·subst e;obtain⟨s,tm,h⟩:=BH;rw[h1] at h;cases h
   ·subst e;obtain⟨s,tm,h⟩:=BG;rw[h1] at h;cases h
  ·exact hc
  ·exact hc.elim
 ·rintro g' w' ⟨acc,out,S,O,⟨⟨S',⟨bA,v,kJ,rfl,YD,ht9,Vj,ZZ,Vx⟩,nx⟩,hC0,hC1⟩,hperm,hsz,hos,hout⟩;rw[Vj,Vx] at hperm;clear Vj Vx
  obtain⟨W',hV',rE,e1,e2,e3,e4,e5⟩:=Ra (n:=W.heap.size) V cZ hos hout hsz (fun b o hb ho lx=>by
   by_cases e0:b=c0
   ·subst e0;obtain⟨s,tm,h⟩:=hC0;rw[h] at ho;cases ho;cases lx
   ·by_cases e1:b=c1
    ·subst e1;obtain⟨s,tm,h⟩:=hC1;rw[h] at ho;cases ho;cases lx
    ·rw[←(nx b ⟨by rw[←V.size];exact hb,e0,e1⟩).2];exact ho) (fun k hk=>(nx k ⟨by omega,by omega,by omega⟩).2)
  have hO:Old W W':=⟨e1.trans hold.os,e2.trans hold.output,bq hold.size e3,fun k hk=>(e4 k hk (bE hk hold.size)).trans (hold.block k hk)⟩
  have ac1:Reads W' v kJ.length (ints kJ):=ZZ.keep (by rw[hV'.size];exact ay _) fun g cs e z h=>e5 g _ h rfl
  have hp:kJ.Perm (kg b (dw ss ms).toNat (bK ss) l 512):=by
   have h1:(ints kJ).map (fun v=>(intOf v).toNat)=kJ:=by simp[ints,intOf,Function.comp_def]
   have h2:(ints (kg b (dw ss ms).toNat (bK ss) l 512)).map (fun v=>(intOf v).toNat)=kg b (dw ss ms).toNat (bK ss) l 512:=by simp[ints,intOf,Function.comp_def]
   rw[←h1,←h2];exact hperm.map _
  have Uf:zK (GK 159 bA [.code wy] .normal cs):=⟨⟨by simpa [GK,G,js] using Uv,rfl⟩,hg.callers,.inl rfl⟩
  refine(RO (cs:=cs) G0.e G0.f159 (R:=fun v W''=>SV b l ss ms W v W'') YD ht9 ⟨kJ,ac1,hp,hO⟩ K Uf rE w' hV').mono ?_;rintro g2 w2 ⟨W2,⟨fr,v2,τ,d,rfl,⟨o2,r1,r2,r3⟩,hh,ho,hu,hfn,hlv⟩,V2,hg2,T8,hs2⟩;refine⟨W2,⟨fr,v2,τ,d,rfl,⟨o2,?_,r2,r3.trans ⟨ho,hu,by rw[hh];exact ay _,fun k _=>by rw[hh]⟩⟩,hfn,hlv⟩,V2,hg2,T8,bq e3 hs2⟩;exact r1.keep (by rw[hh];exact ay _) fun g cs e z h=>by rw[hh];exact h
end
structure Sm(W W':ar):Prop where
 heap:W'.heap=W.heap
 os:W'.os=W.os
 output:W'.output=W.output
theorem Sm.old{W W':ar}(h:Sm W W'):Old W W':=⟨h.os,h.output,by rw[h.heap];exact ay _,fun k _=>by rw[h.heap]⟩
theorem qh(W:ar)(o:Obj):Old W (W.alloc o):=⟨rfl,rfl,by simp,fun k hk=>Below.heap_alloc _ _ _ hk⟩
theorem enter_at{P:aN}{f:FuncId}{fn:Func}{c:gZ}{args:Array ak}(hf:P.funcs[f]?=some fn)(hb:fn.body=some c):eH P f args .normal=({ (default:bP) with fn:=f,kind:=.normal }:bP).at ⟨args ++ aU (fn.ntmps - args.size) af,[]⟩ [.code c]:=by
 simp[eH,Frame.at,hf,hb]
theorem aeJ(x:ak) : #[x] ++ aU (71 - #[x].size) af = #[x,af,af,af,af,af,af,af,af,af,af,af,af,af,af,af,af,af,af,af,af,af,af,af,af,af,af,af,af,af,af,af,af,af,af,af,af,af,af,af,af,af,af,af,af,af,af,af,af,af,af,af,af,af,af,af,af,af,af,af,af,af,af,af,af,af,af,af,af,af,af]:=by
 simp only[List.size_toArray,List.length_cons,List.length_nil,Nat.reduceAdd,Nat.reduceSub,Array.replicate_succ,Array.replicate_zero,jJ,iG,kx,iM]
theorem Zo:Tryz.f159.ntmps=71:=by kernel_rfl
section
variable{P:aN}{b:BB}{men sent marks all:ak}{l:List eV}{ss:List Int}{ms:List Mk}{Y:Nat→Prop}{W:ar}
theorem XL(G0:SX P b men sent marks all l ss ms Y W):j6 P 159 #[.agg (b.open men sent marks all)] W (SV b l ss ms W):=by
 intro cs;have T:=quiet_of G0.e;obtain⟨sn,OS⟩ : ∃sn,bK ss=sn:=⟨_,rfl⟩
 obtain⟨xb,hxb⟩ : ∃xb,W.heap.size=xb:=⟨_,rfl⟩
 have tS:eH P 159 #[.agg (b.open men sent marks all)] .normal=({ (default:bP) with fn:=159,kind:=.normal }:bP).at ⟨#[.agg (b.open men sent marks all),af,af,af,af,af,af,af,af,af,af,af,af,af,af,af,af,af,af,af,af,af,af,af,af,af,af,af,af,af,af,af,af,af,af,af,af,af,af,af,af,af,af,af,af,af,af,af,af,af,af,af,af,af,af,af,af,af,af,af,af,af,af,af,af,af,af,af,af,af,af],[]⟩ [.code (.seq gR0 (.seq gR1 (.seq gR2 (.seq gR3 (.seq (.seq gR4 (.block 0 (.loop Ih))) Ny)))))]:=by
  rw[enter_at G0.f159 UH,Zo,aeJ];unfold Ny;rfl
 rw[tS];have jG:({ (default:bP) with fn:=159,kind:=.normal }:bP).kind≠.early:=by simp
 have hsW : ∀ {W':ar},Old W W'→Reads W' sent ss.length (ss.map (Value.int .i64)):=fun ho=>G0.rs.to (fun c hc=>bE (G0.lt hc) ho.size) fun a ha=>ho.cell (G0.lt ha);refine jU T (fun w=>step_seq) ?_;refine oJ T jG (Q:=fun a W'=>a=⟨#[.agg (b.open men sent marks all),ptr ⟨xb,0,none⟩,.slice none 0 0,af,af,af,af,af,af,af,af,af,af,af,af,af,af,af,af,af,af,af,af,af,af,af,af,af,af,af,af,af,af,af,af,af,af,af,af,af,af,af,af,af,af,af,af,af,af,af,af,af,af,af,af,af,af,af,af,af,af,af,af,af,af,af,af,af,af,af,af],[]⟩∧Sm (W.alloc (.cells (b.open men sent marks all) 122)) W') (fun τ d=>?_) ?_
 ·rw[G0.e];refine AP (pR0 (W:=cX W τ d) hxb) ?_;rintro e a W' ⟨rfl,rfl,rfl⟩;exact⟨rfl,rfl,rfl,rfl,rfl⟩
 rintro a W1 τ1 d1 ⟨rfl,hsm⟩;have o1:Old W W1:=(qh W _).trans (Sm.old (W':=W1) ⟨hsm.heap,hsm.os,hsm.output⟩)
 have x1:W1.heap[xb]?=some (.cells (b.open men sent marks all) 122 (0,0)):=by
  have h:W1.heap=(W.alloc (.cells (b.open men sent marks all) 122)).heap:=hsm.heap;rw[h,←hxb];exact World.alloc_heap_new W _
 have s1:xb<W1.heap.size:=eY x1;clear hsm;refine jU T (fun w=>step_seq) ?_;refine oJ T jG (Q:=fun a W'=>a=⟨#[.agg (b.open men sent marks all),ptr ⟨xb,0,none⟩,.slice none 0 0,.int .i64 sn,af,af,af,af,af,af,af,ptr ⟨xb,0,none⟩,ptr ⟨xb,0,none⟩,ptr ⟨xb,13,none⟩,sent,.int .i64 sn,af,af,af,af,af,af,af,af,af,af,af,af,af,af,af,af,af,af,af,af,af,af,af,af,af,af,af,af,af,af,af,af,af,af,af,af,af,af,af,af,af,af,af,af,af,af,af,af,af,af,af,af,af,af,af],[]⟩∧Sm W1 W') (fun τ d=>?_) ?_
 ·rw[G0.e];refine AP (pR1 (b:=b) (men:=men) (marks:=marks) (all:=all) (W:=cX W1 τ d) G0.FX ?_ (hsW (W':=cX W1 τ d) ⟨o1.os,o1.output,o1.size,o1.block⟩) OS) ?_
  ·show W1.cell? ⟨xb,13,none⟩=some sent;unfold dU;rw[x1];rfl
  ·rintro e a W' ⟨rfl,rfl,rfl⟩;exact⟨rfl,rfl,rfl,rfl,rfl⟩
 rintro a W2 τ2 d2 ⟨rfl,hsm⟩;have hh:W2.heap=W1.heap:=hsm.heap;have o2:Old W W2:=o1.trans (Sm.old (W':=W2) ⟨hsm.heap,hsm.os,hsm.output⟩);have x2:W2.heap[xb]?=some (.cells (b.open men sent marks all) 122 (0,0)):=by rw[hh];exact x1
 have s2:W.heap.size<W2.heap.size:=by rw[hh];omega
 clear hsm hh o1 x1 s1;refine jU T (fun w=>step_seq) ?_;refine oJ T jG (Q:=fun a W'=>∃c0 c1 fb tb:Nat,a=⟨#[.agg (b.open men sent marks all),ptr ⟨xb,0,none⟩,.slice none 0 0,.int .i64 sn,ptr ⟨fb,0,none⟩,ptr ⟨tb,0,none⟩,af,af,af,af,af,ptr ⟨xb,0,none⟩,ptr ⟨xb,0,none⟩,ptr ⟨xb,13,none⟩,sent,.int .i64 sn,.chan (some c0),.chan (some c1),af,af,af,af,af,af,af,af,af,af,af,af,af,af,af,af,af,af,af,af,af,af,af,af,af,af,af,af,af,af,af,af,af,af,af,af,af,af,af,af,af,af,af,af,af,af,af,af,af,af,af,af,af],[]⟩∧(Chan c0 W'∧Chan c1 W'∧W'.heap[fb]?=some (.cells #[.chan (some c0)] 188 (0,0))∧W'.heap[tb]?=some (.cells #[.chan (some c1)] 189 (0,0))∧c0≠c1∧W2.heap.size≤c0∧W2.heap.size≤c1∧W2.heap.size≤fb∧W2.heap.size≤tb∧Old W2 W')) (fun τ d=>?_) ?_
 ·rw[G0.e];refine AP (pR2 (b:=b) (men:=men) (sent:=sent) (marks:=marks) (all:=all) (xb:=xb) (sn:=sn) (W:=cX W2 τ d)) ?_;rintro e a W' ⟨rfl,c0,c1,fb,tb,rfl,h1,h2,h3,h4,h5,h6,h7,h8,h9,h10⟩;exact⟨rfl,c0,c1,fb,tb,rfl,h1,h2,h3,h4,h5,h6,h7,h8,h9,h10.os,h10.output,h10.size,h10.block⟩
 rintro a W3 τ3 d3 ⟨c0,c1,fb,tb,rfl,h1,h2,h3,h4,h5,h6,h7,h8,h9,h10⟩;have o3:Old W W3:=o2.trans ⟨h10.os,h10.output,h10.size,h10.block⟩;have x3:W3.heap[xb]?=some (.cells (b.open men sent marks all) 122 (0,0)):=(h10.block xb (by omega)).trans x2;have k0:Chan c0 W3:=h1;have k1:Chan c1 W3:=h2;have kf:W3.heap[fb]?=some (.cells #[.chan (some c0)] 188 (0,0)):=h3;have kt:W3.heap[tb]?=some (.cells #[.chan (some c1)] 189 (0,0)):=h4;clear h1 h2 h3 h4 h10 o2 x2;refine jU T (fun w=>step_seq) ?_;refine oJ T jG (Q:=fun a W'=>a=⟨#[.agg (b.open men sent marks all),ptr ⟨xb,0,none⟩,.slice none 0 0,.int .i64 sn,ptr ⟨fb,0,none⟩,ptr ⟨tb,0,none⟩,.int .i64 0,af,af,af,af,ptr ⟨xb,0,none⟩,ptr ⟨xb,0,none⟩,ptr ⟨xb,13,none⟩,sent,.int .i64 sn,.chan (some c0),.chan (some c1),af,af,af,af,af,af,af,af,af,af,af,af,af,af,af,af,af,af,af,af,af,af,af,af,af,af,af,af,af,af,af,af,af,af,af,af,af,af,af,af,af,af,af,af,af,af,af,af,af,af,af,af,af],[]⟩∧Sm W3 W') (fun τ d=>?_) ?_
 ·rw[G0.e];refine AP (pR3 (b:=b) (men:=men) (sent:=sent) (marks:=marks) (all:=all) (xb:=xb) (sn:=sn) (c0:=c0) (c1:=c1) (fb:=fb) (tb:=tb) (W:=cX W3 τ d)) ?_;rintro e a W' ⟨rfl,rfl,rfl⟩;exact⟨rfl,rfl,rfl,rfl,rfl⟩
 rintro a W4 τ4 d4 ⟨rfl,T2⟩;have e4:W4.heap=W3.heap:=T2.heap;have o4:Old W W4:=o3.trans (Sm.old (W':=W4) ⟨T2.heap,T2.os,T2.output⟩);refine jU T (fun w=>step_seq) ?_;refine jU T (fun w=>step_seq) ?_;refine oJ T jG (Q:=fun a W'=>a=⟨#[.agg (b.open men sent marks all),ptr ⟨xb,0,none⟩,.slice none 0 0,.int .i64 sn,ptr ⟨fb,0,none⟩,ptr ⟨tb,0,none⟩,.int .i64 0,af,af,af,af,ptr ⟨xb,0,none⟩,ptr ⟨xb,0,none⟩,ptr ⟨xb,13,none⟩,sent,.int .i64 sn,.chan (some c0),.chan (some c1),.int .i64 0,af,af,af,af,af,af,af,af,af,af,af,af,af,af,af,af,af,af,af,af,af,af,af,af,af,af,af,af,af,af,af,af,af,af,af,af,af,af,af,af,af,af,af,af,af,af,af,af,af,af,af,af],[]⟩∧Sm W4 W') (fun τ d=>?_) ?_
 ·rw[G0.e];refine AP (pR4 (b:=b) (men:=men) (sent:=sent) (marks:=marks) (all:=all) (xb:=xb) (sn:=sn) (c0:=c0) (c1:=c1) (fb:=fb) (tb:=tb) (W:=cX W4 τ d)) ?_;rintro e a W' ⟨rfl,rfl,rfl⟩;exact⟨rfl,rfl,rfl,rfl,rfl⟩
 rintro a W5 τ5 d5 ⟨rfl,T1⟩;have e5:W5.heap=W3.heap:=(show W5.heap=W4.heap from T1.heap).trans e4;have o5:Old W W5:=o4.trans (Sm.old (W':=W5) ⟨T1.heap,T1.os,T1.output⟩);have kc : ∀ {c:Nat},Chan c W3→Chan c W5:=fun h=>by obtain⟨s,tm,h⟩:=h;exact⟨s,tm,by rw[e5];exact h⟩
 exact Mg (cs:=cs) G0 o5 (by rw[e5];exact x3) (by rw[e5];exact kf) (by rw[e5];exact kt) (kc k0) (kc k1) h5 ⟨by omega,by omega,by omega,by omega,by omega⟩ OS
end
end Go.Proofs.YtffladgmkiimjaaGreatDoor
