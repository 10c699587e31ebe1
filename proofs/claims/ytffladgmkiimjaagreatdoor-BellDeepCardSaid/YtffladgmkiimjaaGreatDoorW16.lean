/- breathed (19), beside leavers. BellDeep (7), beside leavers. BellDeep  .. -/
import Derived.Test.YtffladgmkiimjaaGreatDoorW15
import Derived.Test.YtffladgmkiimjaaGreatDoorW12
import Derived.Test.YtffladgmkiimjaaGreatDoorW13
import Derived.Test.YtffladgmkiimjaaGreatDoorW14
import Derived.Test.YtffladgmkiimjaaGreatDoorW11
set_option linter.all false
set_option maxHeartbeats 100000000
set_option maxRecDepth 1000000
open Array renaming replicate → aU,getElem?_eq_some_iff → aj
open Go renaming Value → ak,World → ar,TypeId → bg,Calls → bp,results_tmp → cD
open Go.Ending renaming returned → aG
open Go.IntKind renaming i64 → ag
open Go.Lib renaming hid → ai
open Go.Obj renaming cells → au
open Go.Operand renaming tmp → aB
open Go.Proofs.Tryz renaming underlying28 → aT,prog → aq
open Go.RowKit renaming Below → aC
open Go.RowKit.Below renaming refl → aw
open Go.Value renaming pointer → a8,bool → aA,int → aM,agg → aQ,slice → ae,int → ah,tuple → bM,oneCell' → cy
open Go.World renaming alloc_heap_new → ax
open Nat renaming le_refl → ay,le_trans → bq,reduceEqDiff → eQ
open Option.some renaming inj → bt
open Or renaming inl → bI
namespace Go.Proofs.YtffladgmkiimjaaGreatDoor
open Go.RowKit Go.Lag
open Go.Conc
theorem Typed.old{w w':ar}{v:ak}{t:bg}(h:Typed w v t)(ho:Old w w'):Typed w' v t:=fun g hg=>by
 obtain⟨c,hc⟩:=h g hg;exact⟨c,(ho.block g (aj.1 hc).1).trans hc⟩
theorem Typed.pz{w:ar}{v:ak}{t u:bg}(h:Typed w v t){B:Nat}{z cs:Array ak}(hB:w.heap[B]?=some (au z u (0,0)))(ht:t≠u):Typed (w.setRow B cs) v t:=h.setRow fun g hg=>by
 obtain⟨c,hc⟩:=h g hg;rintro rfl;rw[hc] at hB;cases hB;exact ht rfl
theorem Typed.at_{w w':ar}{v:ak}{t:bg}{n:Nat}{xs:List ak}(hr:Reads w v n xs)(hs:w.heap.size≤w'.heap.size)(hk:∀g,v.ownBlock=some g→w'.heap[g]?=w.heap[g]?):Reads w' v n xs:=hr.at_ hs hk
theorem gg.old{b:BB}{m s k:ak}{ml:List Mn}{ss:List Int}{ms:List Mk}{w w':ar}(h:gg b m s k ml ss ms w)(ho:Old w w'):gg b m s k ml ss ms w':=⟨h.tocK.old ho,h.t1.old ho,h.t2.old ho,h.t3.old ho⟩
theorem MV{w:ar}{v:ak}{t u:bg}(h:Typed w v t){B:Nat}{z:Array ak}(hB:w.heap[B]?=some (au z u (0,0)))(ht:t≠u):∀g,v.ownBlock=some g→g≠B:=fun g hg=>by
 obtain⟨c,hc⟩:=h g hg;rintro rfl;rw[hc] at hB;cases hB;exact ht rfl
theorem gg.pz{b:BB}{m s k:ak}{ml:List Mn}{ss:List Int}{ms:List Mk}{w:ar}(h:gg b m s k ml ss ms w){B:Nat}{z cs:Array ak}(hB:w.heap[B]?=some (au z 28 (0,0))):gg b m s k ml ss ms (w.setRow B cs):=
 ⟨⟨h.ok,h.iw,h.mL,h.lh,h.rm.at_ (by rw[setRow_size];exact ay _) fun g hg=>setRow_other (MV h.t1 hB (by decide) g hg),h.rs.at_ (by rw[setRow_size];exact ay _) fun g hg=>setRow_other (MV h.t2 hB (by decide) g hg),h.rk.at_ (by rw[setRow_size];exact ay _) fun g hg=>setRow_other (MV h.t3 hB (by decide) g hg)⟩,
  h.t1.pz hB (by decide),h.t2.pz hB (by decide),h.t3.pz hB (by decide)⟩
theorem Tj.old{m:ak}{w w':ar}(h:Tj m w)(ho:Old w w'):Tj m w':=⟨h.own.old ho,h.pl.old ho⟩
theorem Tj.pz{m:ak}{w:ar}(h:Tj m w){B:Nat}{z cs:Array ak}(hB:w.heap[B]?=some (au z 28 (0,0))):Tj m (w.setRow B cs):=⟨h.own.pz hB,fun g hg=>by
 obtain⟨h1,c,e,y,h2,h3⟩:=h.pl g hg
 exact⟨h1,c,e,y,(setRow_other (MV h.own.t1 hB (by decide) g hg)).trans h2,h3⟩⟩
theorem tN{W w:ar}(h:Old W w){B:Nat}{cs:Array ak}(hB:W.heap.size≤B):Old W (w.setRow B cs):=⟨h.os,h.output,by rw[setRow_size];exact h.size,fun k hk=>(setRow_other (by omega)).trans (h.block k hk)⟩
theorem vO(w:ar):Plain w (ae none 0 0):=fun g hg=>by cases hg
structure BrW(W0:ar)(B:Nat)(m:ak)(W:ar):Prop where
 since:Old W0 W
 laid:Laid W
 bk:W.heap[B]?=some (au (ex.cells m (ae none 0 0) (ae none 0 0)) 28 (0,0))
 ex:Tj m W
theorem cA{W W':ar}{B:Nat}{o:Obj}(h:W.heap[B]?=some o)(ho:Old W W'):W'.heap[B]?=some o:=(ho.block _ (aj.1 h).1).trans h
theorem BrW.old{W0 W W':ar}{B:Nat}{m:ak}(h:BrW W0 B m W)(ho:Old W W'):BrW W0 B m W':=⟨h.since.trans ho,h.laid.old ho,cA h.bk ho,h.ex.old ho⟩
structure BrC(b:BB)(ms:List Mk)(B:Nat)(m s k:ak)(W:ar):Prop where
 bk:W.heap[B]?=some (au (b.cells m s k) 28 (0,0))
 own:gg b m s k j8 [] ms W
theorem BrC.old{b:BB}{ms:List Mk}{W W':ar}{B:Nat}{m s k:ak}(h:BrC b ms B m s k W)(ho:Old W W'):BrC b ms B m s k W':=⟨cA h.bk ho,h.own.old ho⟩
abbrev pR(l:List Int):Pred:=fun v _ w=>Reads w v l.length (l.map (aM ag))
theorem kR{S:ar→Prop}{l:List Int}:∀(u:ak) (ds:List ak) (w w':ar),S w→pR l u ds w→aC w.heap.size w w'→pR l u ds w':=fun _ _ _ _ _ h hb=>h.below hb
abbrev pL(l:List Int):Pred:=fun v _ w=>∃q,v=ae (some ⟨q,0,none⟩) l.length l.length∧w.heap[q]?=some (au (l.map (aM ag)).toArray 3 (0,0))
theorem kL{S:ar→Prop}{l:List Int}:∀(u:ak) (ds:List ak) (w w':ar),S w→pL l u ds w→aC w.heap.size w w'→pL l u ds w':=fun _ _ _ _ _ ⟨q,h1,h2⟩ hb=>⟨q,h1,cA h2 (Old.of_below hb)⟩
abbrev pK(l:List Int):Pred:=fun v _ w=>∃q,v=aQ #[ah ag 0,ae (some ⟨q,0,none⟩) l.length l.length]∧w.heap[q]?=some (au (l.map (aM ag)).toArray 3 (0,0))
theorem kK{S:ar→Prop}{l:List Int}:∀(u:ak) (ds:List ak) (w w':ar),S w→pK l u ds w→aC w.heap.size w w'→pK l u ds w':=fun _ _ _ _ _ ⟨q,h1,h2⟩ hb=>⟨q,h1,cA h2 (Old.of_below hb)⟩
abbrev pT(r:List ak)(l:List Int):Pred:=fun v _ w=>∃x,v=bM (x::r).toArray∧Reads w x l.length (l.map (aM ag))
theorem kT{S:ar→Prop}{r:List ak}{l:List Int}:∀(u:ak) (ds:List ak) (w w':ar),S w→pT r l u ds w→aC w.heap.size w w'→pT r l u ds w':=fun _ _ _ _ _ ⟨x,h1,h2⟩ hb=>⟨x,h1,h2.below hb⟩
abbrev pB(b:BB)(ms:List Mk):Pred:=fun v _ w=>∃m s k,v=aQ (b.cells m s k)∧gg b m s k j8 [] ms w
theorem kB{S:ar→Prop}{b:BB}{ms:List Mk}:∀(u:ak) (ds:List ak) (w w':ar),S w→pB b ms u ds w→aC w.heap.size w w'→pB b ms u ds w':=fun _ _ _ _ _ ⟨m,s,k,h1,h2⟩ hb=>⟨m,s,k,h1,h2.old (Old.of_below hb)⟩
abbrev pU(b:BB)(ms:List Mk):Pred:=fun v _ w=>∃m s k,v=bM #[aQ (b.cells m s k),ah ag 0]∧gg b m s k j8 [] ms w
theorem kU{S:ar→Prop}{b:BB}{ms:List Mk}:∀(u:ak) (ds:List ak) (w w':ar),S w→pU b ms u ds w→aC w.heap.size w w'→pU b ms u ds w':=fun _ _ _ _ _ ⟨m,s,k,h1,h2⟩ hb=>⟨m,s,k,h1,h2.old (Old.of_below hb)⟩
abbrev pX:Pred:=fun v _ w=>∃m,v=aQ (ex.cells m (ae none 0 0) (ae none 0 0))∧Tj m w
theorem kX{S:ar→Prop}:∀(u:ak) (ds:List ak) (w w':ar),S w→pX u ds w→aC w.heap.size w w'→pX u ds w':=fun _ _ _ _ _ ⟨m,h1,h2⟩ hb=>⟨m,h1,h2.old (Old.of_below hb)⟩
abbrev pM(m s:ak):Pred:=fun v _ w=>∃k',v=aQ (ex.cells m s k')∧cK ex m s k' j8 [] [rC,Ws] w
theorem kM{S:ar→Prop}{m s:ak}:∀(u:ak) (ds:List ak) (w w':ar),S w→pM m s u ds w→aC w.heap.size w w'→pM m s u ds w':=fun _ _ _ _ _ ⟨k,h1,h2⟩ hb=>⟨k,h1,h2.below hb⟩
abbrev pA(W:ar)(t:bg)(n:Nat):Pred:=fun v _ w=>∃B,∃z:Array ak,v=pv B 0∧w.heap[B]?=some (au z t (0,0))∧z.size=n∧W.heap.size≤B
theorem kA{S:ar→Prop}{W:ar}{t:bg}{n:Nat}:∀(u:ak) (ds:List ak) (w w':ar),S w→pA W t n u ds w→aC w.heap.size w w'→pA W t n u ds w':=fun _ _ _ _ _ ⟨B,z,h1,h2,h3,h4⟩ hb=>⟨B,z,h1,cA h2 (Old.of_below hb),h3,h4⟩
abbrev pSX(W:ar):Pred:=fun _ d w=>∃B m,d[0]?=some (pv B 0)∧W.heap.size≤B∧w.heap[B]?=some (au (ex.cells m (ae none 0 0) (ae none 0 0)) 28 (0,0))∧Tj m w
theorem kSX{S:ar→Prop}{W:ar}:∀(u:ak) (ds:List ak) (w w':ar),S w→pSX W u ds w→aC w.heap.size w w'→pSX W u ds w':=fun _ _ _ _ _ ⟨B,m,h1,h4,h2,h3⟩ hb=>⟨B,m,h1,h4,cA h2 (Old.of_below hb),h3.old (Old.of_below hb)⟩
abbrev pSB(W:ar)(b:BB)(ms:List Mk):Pred:=fun _ d w=>∃B m s k,d[0]?=some (pv B 0)∧W.heap.size≤B∧w.heap[B]?=some (au (b.cells m s k) 28 (0,0))∧gg b m s k j8 [] ms w
theorem kSB{S:ar→Prop}{W:ar}{b:BB}{ms:List Mk}:∀(u:ak) (ds:List ak) (w w':ar),S w→pSB W b ms u ds w→aC w.heap.size w w'→pSB W b ms u ds w':=fun _ _ _ _ _ ⟨B,m,s,k,h1,h4,h2,h3⟩ hb=>⟨B,m,s,k,h1,h4,cA h2 (Old.of_below hb),h3.old (Old.of_below hb)⟩
abbrev pSC(W:ar)(c:Array ak)(t:bg):Pred:=fun _ d w=>∃B,d[0]?=some (pv B 0)∧W.heap.size≤B∧w.heap[B]?=some (au c t (0,0))
theorem kSC{S:ar→Prop}{W:ar}{c:Array ak}{t:bg}:∀(u:ak) (ds:List ak) (w w':ar),S w→pSC W c t u ds w→aC w.heap.size w w'→pSC W c t u ds w':=fun _ _ _ _ _ ⟨B,h1,h4,h2⟩ hb=>⟨B,h1,h4,cA h2 (Old.of_below hb)⟩
theorem nV(xs:List Int)(v1 v2:ak)(w:ar)(h1:Reads w v1 xs.length (xs.map (aM ag)))(h2:Reads w v2 xs.length (xs.map (aM ag))) :
  bp aq 22 #[v1,v2] w fun e w'=>e=aG (aA true)∧aC w.heap.size w w':=by
 have h:=G5 xs xs v1 v2 w h1 h2;rw[decide_eq_true (rfl:xs=xs)] at h;exact h
theorem tZ{W0:ar}(hL:Laid W0):j6 aq 19 #[] W0 fun v W'=>v=aA true∧Old W0 W':=by
 refine kZ quiet Tryz.func19 rfl ?hR ?body
 case hR=>
  rintro v W' τ d ⟨h1,h2⟩;exact⟨h1,vQ h2⟩
 have hF:BU 329 { tmps:=#[]++aU (Tryz.f19.ntmps-(#[]:Array ak).size) undef,defers:=[] } []:=⟨by simp only[Tryz.ntmps19];simp,rfl,trivial⟩
 generalize ({ tmps:=#[]++aU (Tryz.f19.ntmps-(#[]:Array ak).size) undef,defers:=[] }:Act)=a at *;refine(fun h:∀W,Old W0 W→nN aq _ (F4 aq Tryz.f19 fun v W'=>v=aA true∧Old W0 W') a W=>h W0 (Old.refl W0)) ?_;intro W hold
 refine iA quiet bm [pV (aA false)]
  _ (by kernel_rfl) hF.size hF.base ?_ ?_ ?_
 ·exact⟨sV,trivial⟩
 ·refine⟨?_,trivial⟩<;>rintro ev w1 hS hc hg hf hb hd
  ·clear hd;refine yv ?_ rfl;go_simp
 intro a W hR;have ho:=hR.s;replace hF:=hR.fr hF (by kernel_rfl);replace hold:=hold.trans ho;clear hR ho
 refine iA quiet bm [pX,pA W 28 15,pSX W]
  _ (by kernel_rfl) hF.size hF.base ?_ ?_ ?_
 ·exact⟨kX,kA,kSX,trivial⟩
 ·refine⟨?_,?_,?_,trivial⟩<;>rintro ev w1 hS hc hg hf hb hd
  ·clear hd;refine Lag.Yields.call (f:=93) (args:=#[]) ?_ (Pg (bq hL.lt (hold.trans hS).size)) ?_
   ·go_simp
   ·rintro e w2 ⟨m,rfl,h1,hb⟩;exact⟨_,rfl,⟨m,rfl,h1⟩,bI hb⟩
  ·clear hd;refine Lag.Yields.value (v:=pv w1.heap.size 0) (w':=w1.alloc (au OA 28)) ?_ ⟨⟨_,_,rfl,ax _ _,rfl,hS.size⟩,bI ((aw _ _).alloc (ay _) _)⟩;go_simp
  ·have d1:pA _ _ _ (ev (aB 1)) [] w1:=hd.1 rfl;have d0:pX (ev (aB 37)) [] w1:=hd.2.1 rfl;clear hd;obtain⟨B,z,eB,hB,hz,hge⟩:=d1;obtain⟨m,ex0,hx⟩:=d0;obtain⟨pm,cm,rfl,_⟩:=aV hx.own.rm;refine Lag.Yields.lR 28 _ _ rfl B (ex.cells (ae pm j8.length cm) (ae none 0 0) (ae none 0 0)) eB ex0 28 z hB (by kernel_rfl) hz (by simp[cy]) ⟨⟨B,_,congrArg some eB,hge,cM hB,hx.pz hB⟩,.inr ⟨tN hS hge,?_⟩⟩;intro j u ds hj hp
   match j,hp with
   |0,⟨m,h1,h2⟩=>exact⟨m,h1,h2.pz hB⟩
   |1,⟨B',z',h1,h2,h3,h4⟩=>
    by_cases D6:B'=B
    ·subst D6;rw[hB] at h2;cases h2;exact⟨B',_,h1,cM hB,hz.symm.trans h3,h4⟩
    ·exact⟨B',z',h1,(setRow_other D6).trans h2,h3,h4⟩
   |2,_=>exact(hj rfl).elim
   |j+3,_=>trivial
 intro a W hR;have ho:=hR.s;obtain⟨B1,m,q1,q2,q3,q4⟩:=hR.val 2 (by decide);have e1:a.eval (aB 1)=pv B1 0:=bt q1;have F:BrW W0 B1 m W:=⟨hold.trans ho,(hL.old hold).old ho,q3,q4⟩
 clear q1 q2 q3 q4;replace hF:=(hR.fr hF (by kernel_rfl)).cons (t:=1) e1;replace hold:=hold.trans ho;clear hR ho e1
 refine iA quiet bm [pV (aQ (ex.cells m (ae none 0 0) (ae none 0 0))),pV (bM #[ah ag 60,ah ag 0]),pV (bM #[ah ag 60,ah ag 0]),pV (ah ag 60),pV (ah ag 0),pV (ah ag 60),pV (ah ag 0)]
  _ (by kernel_rfl) hF.size hF.base ?_ ?_ ?_
 ·exact⟨sV,sV,sV,sV,sV,sV,sV,trivial⟩
 ·refine⟨?_,?_,?_,?_,?_,?_,?_,trivial⟩<;>rintro ev w1 hS hc hg hf ⟨b1,-⟩ hd
  all_goals try
   try have d0:ev (aB _)=_:=hd.1 rfl
   clear hd;refine yw rfl ?_ rfl;go_simp;done
  ·clear hd;exact k8 28 rfl b1 ((F.old hS).bk) aT rfl (by kernel_rfl) rfl
  ·have d0:ev (aB 39)=_:=hd.1 rfl;clear hd;have F1:=F.old hS;refine yc (Uy F1.laid F1.ex.own.tocK) ?_ fun _=>rfl;go_simp
 intro a W hR;have ho:=hR.s;replace F:=F.old ho;replace hF:=((hR.fr hF (by kernel_rfl)).cons (t:=2) (hR.val 5 (by decide))).cons (t:=3) (hR.val 6 (by decide));replace hold:=hold.trans ho;clear hR ho
 refine iA quiet bm [pV (aQ (ex.cells m (ae none 0 0) (ae none 0 0))),pV (bM #[ah ag 18,ah ag 0]),pV (bM #[ah ag 18,ah ag 0]),pV (ah ag 18),pV (ah ag 0),pV (ah ag 18),pV (ah ag 0)]
  _ (by kernel_rfl) hF.size hF.base ?_ ?_ ?_
 ·exact⟨sV,sV,sV,sV,sV,sV,sV,trivial⟩
 ·refine⟨?_,?_,?_,?_,?_,?_,?_,trivial⟩<;>rintro ev w1 hS hc hg hf ⟨-,-,b1,-⟩ hd
  all_goals try
   try have d0:ev (aB _)=_:=hd.1 rfl
   clear hd;refine yw rfl ?_ rfl;go_simp;done
  ·clear hd;exact k8 28 rfl b1 ((F.old hS).bk) aT rfl (by kernel_rfl) rfl
  ·have d0:ev (aB 44)=_:=hd.1 rfl;clear hd;have F1:=F.old hS;refine yc (aaU F1.laid F1.ex.own.tocK) ?_ fun _=>rfl;go_simp
 intro a W hR;have ho:=hR.s;replace F:=F.old ho;replace hF:=((hR.fr hF (by kernel_rfl)).cons (t:=4) (hR.val 5 (by decide))).cons (t:=5) (hR.val 6 (by decide));replace hold:=hold.trans ho;clear hR ho
 refine iA quiet bm [pV (aQ (ex.cells m (ae none 0 0) (ae none 0 0))),pL [3,4],pK [3,4],pL [1],pT [ah ag 0] [44,38,29,20,11],pT [ah ag 0] [44,38,29,20,11],pR [44,38,29,20,11],pV (ah ag 0),pR [44,38,29,20,11],pV (ah ag 0)]
  _ (by kernel_rfl) hF.size hF.base ?_ ?_ ?_
 ·exact⟨sV,kL,kK,kL,kT,kT,kR,sV,kR,sV,trivial⟩
 ·refine⟨?_,?_,?_,?_,?_,?_,?_,?_,?_,?_,trivial⟩<;>rintro ev w1 hS hc hg hf ⟨-,-,-,-,b1,-⟩ hd
  ·clear hd;exact k8 28 rfl b1 ((F.old hS).bk) aT rfl (by kernel_rfl) rfl
  ·clear hd;refine Lag.Yields.value (v:=ae (some ⟨w1.heap.size,0,none⟩) 2 2) (w':=w1.alloc (au #[ah ag 3,ah ag 4] 3)) ?_ ⟨⟨_,rfl,ax _ _⟩,bI ((aw _ _).alloc (ay _) _)⟩;go_simp
  ·have d1:pL _ (ev (aB 50)) [] w1:=hd.1 rfl;clear hd;obtain⟨q,e0,hq⟩:=d1;refine Lag.Yields.value (v:=aQ #[ah ag 0,ae (some ⟨q,0,none⟩) 2 2]) (w':=w1) ?_ ⟨⟨q,rfl,hq⟩,bI (aw _ _)⟩;go_simp
  ·clear hd;refine Lag.Yields.value (v:=ae (some ⟨w1.heap.size,0,none⟩) 1 1) (w':=w1.alloc (au #[ah ag 1] 3)) ?_ ⟨⟨_,rfl,ax _ _⟩,bI ((aw _ _).alloc (ay _) _)⟩;go_simp
  ·have d0:ev (aB 49)=_:=hd.1 rfl;have d2:pK _ (ev (aB 51)) [] w1:=hd.2.1 rfl;have d3:pL _ (ev (aB 52)) [] w1:=hd.2.2.1 rfl;clear hd;have F1:=F.old hS;obtain⟨q2,e2,Rm⟩:=d2;obtain⟨q3,e3,hq3⟩:=d3;refine Lag.Yields.call (f:=32) (args:=#[aQ (ex.cells m (ae none 0 0) (ae none 0 0)),aQ #[ah ag 0,ae (some ⟨q2,0,none⟩) 2 2],ae (some ⟨q3,0,none⟩) 1 1]) ?_ (XZ F1.laid F1.ex.own.tocK _ _ Rm hq3) ?_
   ·go_simp
   ·rintro e w2 ⟨v,rfl,h1,hb⟩;exact⟨_,rfl,⟨v,rfl,h1⟩,bI hb⟩
  ·have d4:pT _ _ (ev (aB 53)) [] w1:=hd.1 rfl;clear hd;exact yv rfl d4
  ·have d5:pT _ _ (ev (aB 48)) [] w1:=hd.1 rfl;clear hd;obtain⟨x,e0,hx⟩:=d5;refine yv (v:=x) ?_ hx;go_simp
  ·have d5:pT _ _ (ev (aB 48)) [] w1:=hd.1 rfl;clear hd;obtain⟨x,e0,hx⟩:=d5;refine yv ?_ rfl;go_simp
  ·have d6:pR _ (ev (aB 54)) [] w1:=hd.1 rfl;clear hd;exact yv rfl d6
  ·have d7:ev (aB 55)=_:=hd.1 rfl;clear hd;refine yv ?_ rfl;go_simp
 intro a W hR;have ho:=hR.s;have r6:pR _ (a.eval (aB 6)) [] W:=hR.val 8 (by decide);obtain⟨v6,e6⟩:∃v,a.eval (aB 6)=v:=⟨_,rfl⟩
 rw[e6] at r6;replace F:=F.old ho;replace hF:=((hR.fr hF (by kernel_rfl)).cons (t:=6) e6).cons (t:=7) (hR.val 9 (by decide));replace hold:=hold.trans ho;clear hR ho e6
 refine iA quiet bm [pV (aQ (ex.cells m (ae none 0 0) (ae none 0 0))),pV (bM #[ah ag 4,ah ag 0]),pV (bM #[ah ag 4,ah ag 0]),pV (ah ag 4),pV (ah ag 0),pV (ah ag 4),pV (ah ag 0)]
  _ (by kernel_rfl) hF.size hF.base ?_ ?_ ?_
 ·exact⟨sV,sV,sV,sV,sV,sV,sV,trivial⟩
 ·refine⟨?_,?_,?_,?_,?_,?_,?_,trivial⟩<;>rintro ev w1 hS hc hg hf ⟨-,-,-,-,-,-,b1,-⟩ hd
  all_goals try
   try have d0:ev (aB _)=_:=hd.1 rfl
   clear hd;refine yw rfl ?_ rfl;go_simp;done
  ·clear hd;exact k8 28 rfl b1 ((F.old hS).bk) aT rfl (by kernel_rfl) rfl
  ·have d0:ev (aB 57)=_:=hd.1 rfl;clear hd;have F1:=F.old hS;refine yc (R9 F1.laid F1.ex.own.tocK) ?_ fun _=>rfl;go_simp
 intro a W hR;have ho:=hR.s;replace F:=F.old ho;replace r6:=r6.old ho;replace hF:=((hR.fr hF (by kernel_rfl)).cons (t:=8) (hR.val 5 (by decide))).cons (t:=9) (hR.val 6 (by decide));replace hold:=hold.trans ho;clear hR ho
 refine iA quiet bm [pV (aQ (ex.cells m (ae none 0 0) (ae none 0 0))),pL [1,3],pV (bM #[aQ #[ah ag 21,ah ag 31],ah ag 0]),pV (bM #[aQ #[ah ag 21,ah ag 31],ah ag 0]),pV (aQ #[ah ag 21,ah ag 31]),pV (ah ag 0),pA W 23 2,pSC W #[ah ag 21,ah ag 31] 23,pV (ah ag 0)]
  _ (by kernel_rfl) hF.size hF.base ?_ ?_ ?_
 ·exact⟨sV,kL,sV,sV,sV,sV,kA,kSC,sV,trivial⟩
 ·refine⟨?_,?_,?_,?_,?_,?_,?_,?_,?_,trivial⟩<;>rintro ev w1 hS hc hg hf ⟨-,-,-,-,-,-,-,-,b1,-⟩ hd
  all_goals try
   try have d0:ev (aB _)=_:=hd.1 rfl
   clear hd;refine yw rfl ?_ rfl;go_simp;done
  ·clear hd;exact k8 28 rfl b1 ((F.old hS).bk) aT rfl (by kernel_rfl) rfl
  ·clear hd;refine Lag.Yields.value (v:=ae (some ⟨w1.heap.size,0,none⟩) 2 2) (w':=w1.alloc (au #[ah ag 1,ah ag 3] 3)) ?_ ⟨⟨_,rfl,ax _ _⟩,bI ((aw _ _).alloc (ay _) _)⟩;go_simp
  ·have d0:ev (aB 62)=_:=hd.1 rfl;have d1:pL _ (ev (aB 63)) [] w1:=hd.2.1 rfl;clear hd;have F1:=F.old hS;obtain⟨q1,e1,LV⟩:=d1;refine yc (aaX F1.laid F1.ex.own.tocK _ LV) ?_ fun _=>rfl;go_simp
  ·clear hd;refine Lag.Yields.value (v:=pv w1.heap.size 0) (w':=w1.alloc (au #[ah ag 0,ah ag 0] 23)) ?_ ⟨⟨_,_,rfl,ax _ _,rfl,hS.size⟩,bI ((aw _ _).alloc (ay _) _)⟩;go_simp
  ·have d6:pA _ _ _ (ev (aB 10)) [] w1:=hd.1 rfl;have d4:ev (aB 65)=_:=hd.2.1 rfl;clear hd;obtain⟨B,z,eB,hB,hz,hge⟩:=d6;refine Lag.Yields.lR 23 _ _ rfl B #[ah ag 21,ah ag 31] eB d4 23 z hB (by kernel_rfl) hz (by simp[cy]) ⟨⟨B,congrArg some eB,hge,cM hB⟩,.inr ⟨tN hS hge,?_⟩⟩;intro j u ds hj hp
   match j,hp with
   |0,hp=>exact hp
   |1,⟨q,h1,h2⟩=>exact⟨q,h1,(setRow_other (ME h2 hB (by decide))).trans h2⟩
   |2,hp=>exact hp
   |3,hp=>exact hp
   |4,hp=>exact hp
   |5,hp=>exact hp
   |6,⟨B',z',h1,h2,h3,h4⟩=>
    by_cases D6:B'=B
    ·subst D6;rw[hB] at h2;cases h2;exact⟨B',_,h1,cM hB,hz.symm.trans h3,h4⟩
    ·exact⟨B',z',h1,(setRow_other D6).trans h2,h3,h4⟩
   |7,_=>exact(hj rfl).elim
   |8,hp=>exact hp
   |j+9,_=>trivial
 intro a W hR;have ho:=hR.s;obtain⟨B10,q1,q2,qa⟩:=hR.val 7 (by decide);have Io:a.eval (aB 10)=pv B10 0:=bt q1;clear q1 q2;replace F:=F.old ho;replace r6:=r6.old ho;replace hF:=((hR.fr hF (by kernel_rfl)).cons (t:=10) Io).cons (t:=11) (hR.val 8 (by decide));replace hold:=hold.trans ho;clear hR ho Io
 refine iA quiet bm [pV (aQ (ex.cells m (ae none 0 0) (ae none 0 0))),pL [1,3],pV (bM #[ah ag 1,ah ag 0]),pV (bM #[ah ag 1,ah ag 0]),pV (ah ag 1),pV (ah ag 0),pV (ah ag 1),pV (ah ag 0)]
  _ (by kernel_rfl) hF.size hF.base ?_ ?_ ?_
 ·exact⟨sV,kL,sV,sV,sV,sV,sV,sV,trivial⟩
 ·refine⟨?_,?_,?_,?_,?_,?_,?_,?_,trivial⟩<;>rintro ev w1 hS hc hg hf ⟨-,-,-,-,-,-,-,-,-,-,b1,-⟩ hd
  all_goals try
   try have d0:ev (aB _)=_:=hd.1 rfl
   clear hd;refine yw rfl ?_ rfl;go_simp;done
  ·clear hd;exact k8 28 rfl b1 ((F.old hS).bk) aT rfl (by kernel_rfl) rfl
  ·clear hd;refine Lag.Yields.value (v:=ae (some ⟨w1.heap.size,0,none⟩) 2 2) (w':=w1.alloc (au #[ah ag 1,ah ag 3] 3)) ?_ ⟨⟨_,rfl,ax _ _⟩,bI ((aw _ _).alloc (ay _) _)⟩;go_simp
  ·have d0:ev (aB 68)=_:=hd.1 rfl;have d1:pL _ (ev (aB 69)) [] w1:=hd.2.1 rfl;clear hd;have F1:=F.old hS;obtain⟨q1,e1,LV⟩:=d1;refine yc (X5 F1.laid F1.ex.own.tocK _ LV) ?_ fun _=>rfl;go_simp
 intro a W hR;have ho:=hR.s;replace F:=F.old ho;replace r6:=r6.old ho;replace qa:=cA qa ho;replace hF:=((hR.fr hF (by kernel_rfl)).cons (t:=12) (hR.val 6 (by decide))).cons (t:=13) (hR.val 7 (by decide));replace hold:=hold.trans ho;clear hR ho
 refine iA quiet bm [pV (aQ (ex.cells m (ae none 0 0) (ae none 0 0))),pL [1,2],pV (bM #[ah ag 0,ah ag 0]),pV (bM #[ah ag 0,ah ag 0]),pV (ah ag 0),pV (ah ag 0),pV (ah ag 0),pV (ah ag 0)]
  _ (by kernel_rfl) hF.size hF.base ?_ ?_ ?_
 ·exact⟨sV,kL,sV,sV,sV,sV,sV,sV,trivial⟩
 ·refine⟨?_,?_,?_,?_,?_,?_,?_,?_,trivial⟩<;>rintro ev w1 hS hc hg hf ⟨-,-,-,-,-,-,-,-,-,-,-,-,b1,-⟩ hd
  all_goals try
   try have d0:ev (aB _)=_:=hd.1 rfl
   clear hd;refine yw rfl ?_ rfl;go_simp;done
  ·clear hd;exact k8 28 rfl b1 ((F.old hS).bk) aT rfl (by kernel_rfl) rfl
  ·clear hd;refine Lag.Yields.value (v:=ae (some ⟨w1.heap.size,0,none⟩) 2 2) (w':=w1.alloc (au #[ah ag 1,ah ag 2] 3)) ?_ ⟨⟨_,rfl,ax _ _⟩,bI ((aw _ _).alloc (ay _) _)⟩;go_simp
  ·have d0:ev (aB 74)=_:=hd.1 rfl;have d1:pL _ (ev (aB 75)) [] w1:=hd.2.1 rfl;clear hd;have F1:=F.old hS;obtain⟨q1,e1,LV⟩:=d1;refine yc (Uz F1.laid F1.ex.own.tocK _ LV) ?_ fun _=>rfl;go_simp
 intro a W hR;have ho:=hR.s;replace F:=F.old ho;replace r6:=r6.old ho;replace qa:=cA qa ho;replace hF:=((hR.fr hF (by kernel_rfl)).cons (t:=14) (hR.val 6 (by decide))).cons (t:=15) (hR.val 7 (by decide));replace hold:=hold.trans ho;clear hR ho
 refine iA quiet bm [pV (aQ (ex.cells m (ae none 0 0) (ae none 0 0))),pV (bM #[ah ag 2,aA true,ah ag 0]),pV (bM #[ah ag 2,aA true,ah ag 0]),pV (ah ag 2),pV (aA true),pV (ah ag 0),pV (ah ag 2),pV (aA true),pV (ah ag 0)]
  _ (by kernel_rfl) hF.size hF.base ?_ ?_ ?_
 ·exact⟨sV,sV,sV,sV,sV,sV,sV,sV,sV,trivial⟩
 ·refine⟨?_,?_,?_,?_,?_,?_,?_,?_,?_,trivial⟩<;>rintro ev w1 hS hc hg hf ⟨-,-,-,-,-,-,-,-,-,-,-,-,-,-,b1,-⟩ hd
  all_goals try
   try have d0:ev (aB _)=_:=hd.1 rfl
   clear hd;refine yw rfl ?_ rfl;go_simp;done
  ·clear hd;exact k8 28 rfl b1 ((F.old hS).bk) aT rfl (by kernel_rfl) rfl
  ·have d0:ev (aB 80)=_:=hd.1 rfl;clear hd;have F1:=F.old hS;refine yc (aaV F1.laid F1.ex.own.tocK) ?_ fun _=>rfl;go_simp
 intro a W hR;have ho:=hR.s;replace F:=F.old ho;replace r6:=r6.old ho;replace qa:=cA qa ho;replace hF:=(((hR.fr hF (by kernel_rfl)).cons (t:=16) (hR.val 6 (by decide))).cons (t:=17) (hR.val 7 (by decide))).cons (t:=18) (hR.val 8 (by decide));replace hold:=hold.trans ho;clear hR ho;refine jD quiet (nR quiet ?_);refine fU (i:=0) (rest:=[1,2,3,4,5,6,7,8]) quiet rfl rfl fun τ d=>?_;refine wp_load_row 28 (aB 1) rfl B1 (hF.g 17 rfl) 28 _ (0,0) _ (w:=cX W τ d) F.bk aT rfl (by kernel_rfl) ?_;show ic aq _ _ _ _ _;have e0:(a.put (some 86) (aQ (ex.cells m (ae none 0 0) (ae none 0 0)))).eval (aB 86)=aQ (ex.cells m (ae none 0 0) (ae none 0 0)):=put_eq _ _ _ (by rw[hF.size];decide);have F1:=F.old (cY W τ d);refine mW (i:=1) (rest:=[2,3,4,5,6,7,8]) quiet rfl rfl (f:=20) (args:=#[aQ (ex.cells m (ae none 0 0) (ae none 0 0))]) ?he10 (R7 F1.laid F1.ex.own.tocK F1.ex.pl (vO _) (vO _)) ?_
 case he10=>
  intro w9;generalize (a.put (some 86) (aQ (ex.cells m (ae none 0 0) (ae none 0 0)))).eval=ev at *;go_simp;exact fun h=>absurd h (by rw[hF.size];decide)
 rintro out W3 hsz ⟨lv,rfl,mC,LW⟩;replace LW:Old W W3:=(cY W τ d).trans LW;refine mV quiet (dV bm) fun τ2 d2=>?_
 refine Gd.tD (n:=329) 2 7 rfl [pV (aQ (ex.cells m (ae none 0 0) (ae none 0 0))),pT [aA true,ah ag 0] [1,3],pT [aA true,ah ag 0] [1,3],pR [1,3],pV (aA true),pV (ah ag 0),pR [1,3],pV (aA true),pV (ah ag 0)]
  (Old W3) [] (by kernel_rfl) (by rw[nh,nh];exact hF.size) ⟨sV,kT,kT,kR,sV,sV,kR,sV,sV,trivial⟩ (fun _ _ h hb=>h.trans (Old.of_below hb)) (cY W3 τ2 d2) trivial ?lo10 ?ea10 ?nx10
 case lo10=>
  intro k hk
  match k,hk with
  |0,_=>exact(uX _ _ _ _ (by decide)).trans e0
  |1,_=>exact⟨lv,put_eq _ _ _ (by rw[nh,hF.size];decide),mC⟩
 case ea10=>
  refine⟨?_,?_,?_,?_,?_,?_,?_,trivial⟩<;>intro ev w1 hS hc hg hf hb hd
  all_goals try
   try have d0:ev (aB _)=_:=hd.1 rfl
   clear hd;refine yw rfl ?_ rfl;go_simp;done
  ·have d1:pT _ _ (ev (aB 87)) [] w1:=hd.1 rfl;clear hd;exact yv rfl d1
  ·have d2:pT _ _ (ev (aB 85)) [] w1:=hd.1 rfl;clear hd;obtain⟨x,e0,hx⟩:=d2;refine yv (v:=x) ?_ hx;go_simp
  ·have d2:pT _ _ (ev (aB 85)) [] w1:=hd.1 rfl;clear hd;obtain⟨x,e0,hx⟩:=d2;refine yv ?_ rfl;go_simp
  ·have d2:pT _ _ (ev (aB 85)) [] w1:=hd.1 rfl;clear hd;obtain⟨x,e0,hx⟩:=d2;refine yv ?_ rfl;go_simp
  ·have d3:pR _ (ev (aB 88)) [] w1:=hd.1 rfl;clear hd;exact yv rfl d3
 intro a W hR;have ho:=LW.trans hR.s;have rP:pR _ (a.eval (aB 19)) [] W:=hR.val 6 (by decide);obtain⟨v19,e19⟩:∃v,a.eval (aB 19)=v:=⟨_,rfl⟩
 rw[e19] at rP;replace F:=F.old ho;replace r6:=r6.old ho;replace qa:=cA qa ho;replace hF:=(((hR.fr ((hF.put 86 _ (by kernel_rfl)).put 87 _ (by kernel_rfl)) (by kernel_rfl)).cons e19).cons (t:=20) (hR.val 7 (by decide))).cons (t:=21) (hR.val 8 (by decide));replace hold:=hold.trans ho;show nN aq _ _ _ _;clear hR ho LW mC e0 F1 hsz e19;refine jD quiet (nR quiet ?_);refine fU (i:=0) (rest:=[1,2,3,4,5,6,7,8]) quiet rfl rfl fun τ d=>?_;refine wp_load_row 28 (aB 1) rfl B1 (hF.g 20 rfl) 28 _ (0,0) _ (w:=cX W τ d) F.bk aT rfl (by kernel_rfl) ?_;show ic aq _ _ _ _ _;have e0:(a.put (some 92) (aQ (ex.cells m (ae none 0 0) (ae none 0 0)))).eval (aB 92)=aQ (ex.cells m (ae none 0 0) (ae none 0 0)):=put_eq _ _ _ (by rw[hF.size];decide);have F1:=F.old (cY W τ d);refine mW (i:=1) (rest:=[2,3,4,5,6,7,8]) quiet rfl rfl (f:=23) (args:=#[aQ (ex.cells m (ae none 0 0) (ae none 0 0))]) ?he11 (R3 F1.laid F1.ex.own.tocK F1.ex.pl (vO _) (vO _)) ?_
 case he11=>
  intro w9;generalize (a.put (some 92) (aQ (ex.cells m (ae none 0 0) (ae none 0 0)))).eval=ev at *;go_simp;exact fun h=>absurd h (by rw[hF.size];decide)
 rintro out W3 hsz ⟨lv,rfl,mC,LW⟩;replace LW:Old W W3:=(cY W τ d).trans LW;refine mV quiet (dV bm) fun τ2 d2=>?_
 refine Gd.tD (n:=329) 2 7 rfl [pV (aQ (ex.cells m (ae none 0 0) (ae none 0 0))),pT [aA true,ah ag 0] [2,4],pT [aA true,ah ag 0] [2,4],pR [2,4],pV (aA true),pV (ah ag 0),pR [2,4],pV (aA true),pV (ah ag 0)]
  (Old W3) [] (by kernel_rfl) (by rw[nh,nh];exact hF.size) ⟨sV,kT,kT,kR,sV,sV,kR,sV,sV,trivial⟩ (fun _ _ h hb=>h.trans (Old.of_below hb)) (cY W3 τ2 d2) trivial ?lo11 ?ea11 ?nx11
 case lo11=>
  intro k hk
  match k,hk with
  |0,_=>exact(uX _ _ _ _ (by decide)).trans e0
  |1,_=>exact⟨lv,put_eq _ _ _ (by rw[nh,hF.size];decide),mC⟩
 case ea11=>
  refine⟨?_,?_,?_,?_,?_,?_,?_,trivial⟩<;>intro ev w1 hS hc hg hf hb hd
  all_goals try
   try have d0:ev (aB _)=_:=hd.1 rfl
   clear hd;refine yw rfl ?_ rfl;go_simp;done
  ·have d1:pT _ _ (ev (aB 93)) [] w1:=hd.1 rfl;clear hd;exact yv rfl d1
  ·have d2:pT _ _ (ev (aB 91)) [] w1:=hd.1 rfl;clear hd;obtain⟨x,e0,hx⟩:=d2;refine yv (v:=x) ?_ hx;go_simp
  ·have d2:pT _ _ (ev (aB 91)) [] w1:=hd.1 rfl;clear hd;obtain⟨x,e0,hx⟩:=d2;refine yv ?_ rfl;go_simp
  ·have d2:pT _ _ (ev (aB 91)) [] w1:=hd.1 rfl;clear hd;obtain⟨x,e0,hx⟩:=d2;refine yv ?_ rfl;go_simp
  ·have d3:pR _ (ev (aB 94)) [] w1:=hd.1 rfl;clear hd;exact yv rfl d3
 intro a W hR;have ho:=LW.trans hR.s;have tu:pR _ (a.eval (aB 22)) [] W:=hR.val 6 (by decide);obtain⟨v22,e22⟩:∃v,a.eval (aB 22)=v:=⟨_,rfl⟩
 rw[e22] at tu;replace F:=F.old ho;replace r6:=r6.old ho;replace qa:=cA qa ho;replace rP:=rP.old ho;replace hF:=(((hR.fr ((hF.put 92 _ (by kernel_rfl)).put 93 _ (by kernel_rfl)) (by kernel_rfl)).cons e22).cons (t:=23) (hR.val 7 (by decide))).cons (t:=24) (hR.val 8 (by decide));replace hold:=hold.trans ho;show nN aq _ _ _ _;clear hR ho LW mC e0 F1 hsz e22;refine jD quiet ?_
 refine iA quiet (dV bm) [pV (ah ag 0),pV (aA false),pV (aA false),pV (ah ag 0),pV (aA false),pV (aA false),pV (aA false),pV (ah ag 0),pV (aA false),pV (aA false),pV (aA false),pV (ah ag 0),pV (aA false),pV (aA false),pV (aA false),pV (ah ag 0),pV (aA false),pV (aA false),pV (aA false),pV (ah ag 0),pV (aA false),pV (aA false),pV (aA false),pV (ah ag 0),pV (aA false),pV (aA false),pV (aA false),pV (ah ag 0),pV (aA false),pV (aA false),pV (aA false),pV (ah ag 0),pV (aA false),pV (aA false),pV (aA false),pV (ah ag 0),pV (aA false),pV (aA false)]
  _ (by kernel_rfl) hF.size hF.base ?_ ?_ ?_
 ·exact⟨sV,sV,sV,sV,sV,sV,sV,sV,sV,sV,sV,sV,sV,sV,sV,sV,sV,sV,sV,sV,sV,sV,sV,sV,sV,sV,sV,sV,sV,sV,sV,sV,sV,sV,sV,sV,sV,sV,trivial⟩
 ·refine⟨?_,?_,?_,?_,?_,?_,?_,?_,?_,?_,?_,?_,?_,?_,?_,?_,?_,?_,?_,?_,?_,?_,?_,?_,?_,?_,?_,?_,?_,?_,?_,?_,?_,?_,?_,?_,?_,?_,trivial⟩<;>rintro ev w1 hS hc hg hf ⟨b24,-,-,b21,-,-,b18,-,-,b15,-,b13,-,b11,-,b9,-,b7,-,b5,-,b3,-,-,-⟩ hd
  all_goals try
   try have d0:ev (aB _)=_:=hd.1 rfl
   try have d1:ev (aB _)=_:=hd.2.1 rfl
   clear hd
   first|refine yw rfl ?_ rfl|refine gL d0 (yw rfl ?_ rfl)|refine gL d1 (yw rfl ?_ rfl)
   go_simp;done
 intro a W hR;have ho:=hR.s;replace F:=F.old ho;replace r6:=r6.old ho;replace qa:=cA qa ho;replace rP:=rP.old ho;replace tu:=tu.old ho;replace hF:=(hR.fr hF (by kernel_rfl)).cons (t:=134) (hR.val 37 (by decide));replace hold:=hold.trans ho;clear hR ho;refine m8 quiet (t:=false) (hF.g 0 rfl) ?_;show nN aq Code.skip _ _ _;refine oF quiet (dV bm) fun τ d=>?_;replace F:=F.old (cY W τ d);replace r6:=r6.old (cY W τ d);replace qa:=cA qa (cY W τ d);replace rP:=rP.old (cY W τ d);replace tu:=tu.old (cY W τ d);replace hold:Old W0 (cX W τ d):=hold.trans (cY W τ d);show nN aq _ _ _ (cX W τ d);generalize cX W τ d=W2 at *;clear W;rename ar=>W;replace hF:=hF.tl;refine jD quiet ?_
 refine NC quiet (by kernel_rfl) (dV bm) [pV (ah ag 60),pV (aA false),pV (aA false),pV (ah ag 18),pV (aA false),pV (aA false),pV (aA false),pV (v6),pL [44,38,29,20,11],pV (aA true),pV (aA false),pV (aA false),pV (aA false),pV (ah ag 4),pV (aA false),pV (aA false),pV (aA false),pV (aQ #[ah ag 21,ah ag 31]),pV (aQ #[ah ag 21,ah ag 31]),pV (aA false),pV (aA false),pV (aA false),pV (ah ag 1),pV (aA false),pV (aA false),pV (aA false),pV (ah ag 0),pV (aA false),pV (aA false),pV (aA false),pV (ah ag 2),pV (aA false),pV (aA false),pV (aA false),pV (aA true),pV (aA false),pV (aA false)]
  _ (by kernel_rfl) hF.size hF.base ?_ ?_ ?_
 ·exact⟨sV,sV,sV,sV,sV,sV,sV,sV,kL,sV,sV,sV,sV,sV,sV,sV,sV,sV,sV,sV,sV,sV,sV,sV,sV,sV,sV,sV,sV,sV,sV,sV,sV,sV,sV,sV,sV,trivial⟩
 ·refine⟨?_,?_,?_,?_,?_,?_,?_,?_,?_,?_,?_,?_,?_,?_,?_,?_,?_,?_,?_,?_,?_,?_,?_,?_,?_,?_,?_,?_,?_,?_,?_,?_,?_,?_,?_,?_,?_,trivial⟩<;>rintro ev w1 hS hc hg hf ⟨-,-,-,-,-,-,-,b17,b16,-,b14,-,b12,-,Sw,-,b8,-,b6,-,b4,-,b2,-,-⟩ hd
  all_goals try
   try have d0:ev (aB _)=_:=hd.1 rfl
   try have d1:ev (aB _)=_:=hd.2.1 rfl
   try have d2:ev (aB _)=_:=hd.2.2.1 rfl
   clear hd
   first|refine yw rfl ?_ rfl|refine gL d0 (yw rfl ?_ rfl)|refine gL d1 (yw rfl ?_ rfl)|refine gL d2 (yw rfl ?_ rfl)
   go_simp;done
  ·have d6:ev (aB 141)=_:=hd.1 rfl;clear hd;refine gL d6 ?_;refine Lag.Yields.value (v:=ae (some ⟨w1.heap.size,0,none⟩) 5 5) (w':=w1.alloc (au #[ah ag 44,ah ag 38,ah ag 29,ah ag 20,ah ag 11] 3)) ?_ ⟨⟨_,rfl,ax _ _⟩,bI ((aw _ _).alloc (ay _) _)⟩;go_simp
  ·have d7:ev (aB 142)=_:=hd.1 rfl;have d8:pL _ (ev (aB 143)) [] w1:=hd.2.1 rfl;have d6:ev (aB 141)=_:=hd.2.2.1 rfl;clear hd;refine gL d6 ?_;obtain⟨q8,e8,hq8⟩:=d8;refine yc (nV [44,38,29,20,11] _ _ w1 (r6.old hS) (jc (l:=[44,38,29,20,11]) hq8 (by decide))) ?_ fun _=>rfl;go_simp
  ·have d16:ev (aB 151)=_:=hd.1 rfl;clear hd;refine gL d16 ?_;exact k8 23 rfl Sw (cA qa hS) Tryz.underlying23 rfl (by kernel_rfl) rfl
  ·have d16:ev (aB 151)=_:=hd.1 rfl;clear hd;refine gL d16 ?_;refine yc (C0 21 31 w1) ?_ fun _=>rfl;go_simp
 intro a W hR;have ho:=hR.s;replace F:=F.old ho;replace r6:=r6.old ho;replace qa:=cA qa ho;replace rP:=rP.old ho;replace tu:=tu.old ho;replace hF:=(hR.fr hF (by kernel_rfl)).cons (t:=171) (hR.val 36 (by decide));replace hold:=hold.trans ho;clear hR ho;refine m8 quiet (t:=false) (hF.g 0 rfl) ?_;show nN aq Code.skip _ _ _;refine oF quiet (dV bm) fun τ d=>?_;replace F:=F.old (cY W τ d);replace r6:=r6.old (cY W τ d);replace qa:=cA qa (cY W τ d);replace rP:=rP.old (cY W τ d);replace tu:=tu.old (cY W τ d);replace hold:Old W0 (cX W τ d):=hold.trans (cY W τ d);show nN aq _ _ _ (cX W τ d);generalize cX W τ d=W2 at *;clear W;rename ar=>W;replace hF:=hF.tl;refine jD quiet ?_
 refine iA quiet (dV bm) [pV (aA true),pV (aA false),pV (aA false),pV (aA true),pV (aA false),pV (aA false),pV (aA false),pV (v19),pL [1,3],pV (aA true),pV (aA false),pV (aA false),pV (aA false),pV (v22),pL [2,4],pV (aA true),pV (aA false),pV (aA false)]
  _ (by kernel_rfl) hF.size hF.base ?_ ?_ ?_
 ·exact⟨sV,sV,sV,sV,sV,sV,sV,sV,kL,sV,sV,sV,sV,sV,kL,sV,sV,sV,trivial⟩
 ·refine⟨?_,?_,?_,?_,?_,?_,?_,?_,?_,?_,?_,?_,?_,?_,?_,?_,?_,?_,trivial⟩<;>rintro ev w1 hS hc hg hf ⟨-,b23,b22,-,b20,b19,-,-,-,-,-,-,-,-,-,-,-,-,-,-,-,-,-,-,-⟩ hd
  all_goals try
   try have d0:ev (aB _)=_:=hd.1 rfl
   try have d1:ev (aB _)=_:=hd.2.1 rfl
   clear hd
   first|refine yw rfl ?_ rfl|refine gL d0 (yw rfl ?_ rfl)|refine gL d1 (yw rfl ?_ rfl)
   go_simp;done
  ·have d6:ev (aB 178)=_:=hd.1 rfl;clear hd;refine gL d6 ?_;refine Lag.Yields.value (v:=ae (some ⟨w1.heap.size,0,none⟩) 2 2) (w':=w1.alloc (au #[ah ag 1,ah ag 3] 3)) ?_ ⟨⟨_,rfl,ax _ _⟩,bI ((aw _ _).alloc (ay _) _)⟩;go_simp
  ·have d7:ev (aB 179)=_:=hd.1 rfl;have d8:pL _ (ev (aB 180)) [] w1:=hd.2.1 rfl;have d6:ev (aB 178)=_:=hd.2.2.1 rfl;clear hd;refine gL d6 ?_;obtain⟨q8,e8,hq8⟩:=d8;refine yc (nV [1,3] _ _ w1 (rP.old hS) (jc (l:=[1,3]) hq8 (by decide))) ?_ fun _=>rfl;go_simp
  ·have d12:ev (aB 184)=_:=hd.1 rfl;clear hd;refine gL d12 ?_;refine Lag.Yields.value (v:=ae (some ⟨w1.heap.size,0,none⟩) 2 2) (w':=w1.alloc (au #[ah ag 2,ah ag 4] 3)) ?_ ⟨⟨_,rfl,ax _ _⟩,bI ((aw _ _).alloc (ay _) _)⟩;go_simp
  ·have d13:ev (aB 185)=_:=hd.1 rfl;have d14:pL _ (ev (aB 186)) [] w1:=hd.2.1 rfl;have d12:ev (aB 184)=_:=hd.2.2.1 rfl;clear hd;refine gL d12 ?_;obtain⟨q14,Ee,ada⟩:=d14;refine yc (nV [2,4] _ _ w1 (tu.old hS) (jc (l:=[2,4]) ada (by decide))) ?_ fun _=>rfl;go_simp
 intro a W hR;have ho:=hR.s;replace F:=F.old ho;replace r6:=r6.old ho;replace qa:=cA qa ho;replace rP:=rP.old ho;replace tu:=tu.old ho;replace hF:=(hR.fr hF (by kernel_rfl)).cons (t:=189) (hR.val 17 (by decide));replace hold:=hold.trans ho;clear hR ho;refine m8 quiet (t:=false) (hF.g 0 rfl) ?_;show nN aq Code.skip _ _ _;refine oF quiet (dV bm) fun τ d=>?_;replace F:=F.old (cY W τ d);replace r6:=r6.old (cY W τ d);replace qa:=cA qa (cY W τ d);replace rP:=rP.old (cY W τ d);replace tu:=tu.old (cY W τ d);replace hold:Old W0 (cX W τ d):=hold.trans (cY W τ d);show nN aq _ _ _ (cX W τ d);generalize cX W τ d=W2 at *;clear W;rename ar=>W;replace hF:=hF.tl;replace hF:=hF.del 3;simp only[sF,eQ,reduceIte] at hF
 refine iA quiet bm [pV (aQ (ex.cells m (ae none 0 0) (ae none 0 0))),pL [1,3],pV (bM #[ah ag 44,aA true,ah ag 0]),pV (bM #[ah ag 44,aA true,ah ag 0]),pV (ah ag 44),pV (aA true),pV (ah ag 0),pV (ah ag 44),pV (aA true),pV (ah ag 0)]
  _ (by kernel_rfl) hF.size hF.base ?_ ?_ ?_
 ·exact⟨sV,kL,sV,sV,sV,sV,sV,sV,sV,sV,trivial⟩
 ·refine⟨?_,?_,?_,?_,?_,?_,?_,?_,?_,?_,trivial⟩<;>rintro ev w1 hS hc hg hf ⟨-,-,-,-,-,-,-,-,-,-,-,-,-,-,-,-,-,-,-,-,-,-,b1,-⟩ hd
  all_goals try
   try have d0:ev (aB _)=_:=hd.1 rfl
   clear hd;refine yw rfl ?_ rfl;go_simp;done
  ·clear hd;exact k8 28 rfl b1 ((F.old hS).bk) aT rfl (by kernel_rfl) rfl
  ·clear hd;refine Lag.Yields.value (v:=ae (some ⟨w1.heap.size,0,none⟩) 2 2) (w':=w1.alloc (au #[ah ag 1,ah ag 3] 3)) ?_ ⟨⟨_,rfl,ax _ _⟩,bI ((aw _ _).alloc (ay _) _)⟩;go_simp
  ·have d0:ev (aB 191)=_:=hd.1 rfl;have d1:pL _ (ev (aB 192)) [] w1:=hd.2.1 rfl;clear hd;have F1:=F.old hS;obtain⟨q1,e1,LV⟩:=d1;refine yc (Pj F1.laid F1.ex.own.tocK _ LV) ?_ fun _=>rfl;go_simp
 intro a W hR;have ho:=hR.s;replace F:=F.old ho;replace r6:=r6.old ho;replace qa:=cA qa ho;replace rP:=rP.old ho;replace tu:=tu.old ho;replace hF:=(((hR.fr hF (by kernel_rfl)).cons (t:=25) (hR.val 7 (by decide))).cons (t:=26) (hR.val 8 (by decide))).cons (t:=3) (hR.val 9 (by decide));replace hold:=hold.trans ho;clear hR ho;replace hF:=hF.del 5;simp only[sF,eQ,reduceIte] at hF
 refine iA quiet bm [pV (aQ (ex.cells m (ae none 0 0) (ae none 0 0))),pL [1],pT [aA true,ah ag 0] [0],pT [aA true,ah ag 0] [0],pR [0],pV (aA true),pV (ah ag 0),pR [0],pV (aA true),pV (ah ag 0)]
  _ (by kernel_rfl) hF.size hF.base ?_ ?_ ?_
 ·exact⟨sV,kL,kT,kT,kR,sV,sV,kR,sV,sV,trivial⟩
 ·refine⟨?_,?_,?_,?_,?_,?_,?_,?_,?_,?_,trivial⟩<;>rintro ev w1 hS hc hg hf ⟨-,-,-,-,-,-,-,-,-,-,-,-,-,-,-,-,-,-,-,-,-,-,-,-,b1,-⟩ hd
  all_goals try
   try have d0:ev (aB _)=_:=hd.1 rfl
   clear hd;refine yw rfl ?_ rfl;go_simp;done
  ·clear hd;exact k8 28 rfl b1 ((F.old hS).bk) aT rfl (by kernel_rfl) rfl
  ·clear hd;refine Lag.Yields.value (v:=ae (some ⟨w1.heap.size,0,none⟩) 1 1) (w':=w1.alloc (au #[ah ag 1] 3)) ?_ ⟨⟨_,rfl,ax _ _⟩,bI ((aw _ _).alloc (ay _) _)⟩;go_simp
  ·have d0:ev (aB 198)=_:=hd.1 rfl;have d1:pL _ (ev (aB 199)) [] w1:=hd.2.1 rfl;clear hd;have F1:=F.old hS;obtain⟨q1,e1,LV⟩:=d1;refine Lag.Yields.call (f:=27) (args:=#[aQ (ex.cells m (ae none 0 0) (ae none 0 0)),ae (some ⟨q1,0,none⟩) 1 1]) ?_ (X6 F1.laid F1.ex.own.tocK _ LV) ?_
   ·go_simp
   ·rintro e w2 ⟨v,rfl,h1,hb⟩;exact⟨_,rfl,⟨v,rfl,h1⟩,bI hb⟩
  ·have d2:pT _ _ (ev (aB 200)) [] w1:=hd.1 rfl;clear hd;exact yv rfl d2
  ·have d3:pT _ _ (ev (aB 197)) [] w1:=hd.1 rfl;clear hd;obtain⟨x,e0,hx⟩:=d3;refine yv (v:=x) ?_ hx;go_simp
  ·have d3:pT _ _ (ev (aB 197)) [] w1:=hd.1 rfl;clear hd;obtain⟨x,e0,hx⟩:=d3;refine yv ?_ rfl;go_simp
  ·have d3:pT _ _ (ev (aB 197)) [] w1:=hd.1 rfl;clear hd;obtain⟨x,e0,hx⟩:=d3;refine yv ?_ rfl;go_simp
  ·have d4:pR _ (ev (aB 201)) [] w1:=hd.1 rfl;clear hd;exact yv rfl d4
 intro a W hR;have ho:=hR.s;have Cw:pR _ (a.eval (aB 27)) [] W:=hR.val 7 (by decide);obtain⟨v27,YO⟩:∃v,a.eval (aB 27)=v:=⟨_,rfl⟩
 rw[YO] at Cw;replace F:=F.old ho;replace r6:=r6.old ho;replace qa:=cA qa ho;replace rP:=rP.old ho;replace tu:=tu.old ho;replace hF:=(((hR.fr hF (by kernel_rfl)).cons (t:=27) YO).cons (t:=28) (hR.val 8 (by decide))).cons (t:=5) (hR.val 9 (by decide));replace hold:=hold.trans ho;clear hR ho YO;replace hF:=hF.del 7;simp only[sF,eQ,reduceIte] at hF
 refine NC quiet (by kernel_rfl) bm [pV (aQ (ex.cells m (ae none 0 0) (ae none 0 0))),pV (aQ #[ah ag 11,ah ag 11]),pV (aQ #[ah ag 1,ah ag 11,ah ag 11]),pU ex [rC],pU ex [rC],pB ex [rC],pV (ah ag 0),pA W 28 15,pSB W ex [rC],pV (ah ag 0)]
  _ (by kernel_rfl) hF.size hF.base ?_ ?_ ?_
 ·exact⟨sV,sV,sV,kU,kU,kB,sV,kA,kSB,sV,trivial⟩
 ·refine⟨?_,?_,?_,?_,?_,?_,?_,?_,?_,?_,trivial⟩<;>rintro ev w1 hS hc hg hf ⟨-,-,-,-,-,-,-,-,-,-,-,-,-,-,-,-,-,-,-,-,-,-,-,-,-,-,b1,-⟩ hd
  all_goals try
   try have d0:ev (aB _)=_:=hd.1 rfl
   clear hd;refine yw rfl ?_ rfl;go_simp;done
  ·clear hd;exact k8 28 rfl b1 ((F.old hS).bk) aT rfl (by kernel_rfl) rfl
  ·clear hd;refine yc (CA 11 w1) ?_ fun _=>rfl;go_simp
  ·have d0:ev (aB 205)=_:=hd.1 rfl;have d2:ev (aB 207)=_:=hd.2.1 rfl;clear hd;have F1:=F.old hS;refine Lag.Yields.call (f:=75) (args:=#[aQ (ex.cells m (ae none 0 0) (ae none 0 0)),aQ #[ah ag 1,ah ag 11,ah ag 11]]) ?_ (X4 F1.laid F1.ex.own.tocK) ?_
   ·go_simp
   ·rintro e w2 ⟨m,s,k,rfl,h1,hb⟩;exact⟨_,rfl,⟨m,s,k,rfl,h1⟩,bI hb⟩
  ·have d3:pU _ _ (ev (aB 208)) [] w1:=hd.1 rfl;clear hd;exact yv rfl d3
  ·have d4:pU _ _ (ev (aB 204)) [] w1:=hd.1 rfl;clear hd;obtain⟨m,s,k,e0,hx⟩:=d4;refine Lag.Yields.value (v:=aQ (ex.cells m s k)) (w':=w1) ?_ ⟨⟨m,s,k,rfl,hx⟩,bI (aw _ _)⟩;go_simp
  ·have d4:pU _ _ (ev (aB 204)) [] w1:=hd.1 rfl;clear hd;obtain⟨m,s,k,e0,hx⟩:=d4;refine yv ?_ rfl;go_simp
  ·clear hd;refine Lag.Yields.value (v:=pv w1.heap.size 0) (w':=w1.alloc (au OA 28)) ?_ ⟨⟨_,_,rfl,ax _ _,rfl,hS.size⟩,bI ((aw _ _).alloc (ay _) _)⟩;go_simp
  ·have d7:pA _ _ _ (ev (aB 29)) [] w1:=hd.1 rfl;have d5:pB _ _ (ev (aB 209)) [] w1:=hd.2.1 rfl;clear hd;obtain⟨B,z,eB,hB,hz,hge⟩:=d7;obtain⟨m,s,k,ex0,hx⟩:=d5;obtain⟨p1,c1,rfl,_⟩:=aV hx.rm;obtain⟨p2,c2,rfl,_⟩:=aV hx.rs;obtain⟨p3,c3,rfl,_⟩:=aV hx.rk;refine Lag.Yields.lR 28 _ _ rfl B (ex.cells (ae p1 j8.length c1) (ae p2 ([]:List Int).length c2) (ae p3 ([rC]:List Mk).length c3)) eB ex0 28 z hB (by kernel_rfl) hz (by simp[cy]) ⟨⟨B,_,_,_,congrArg some eB,hge,cM hB,hx.pz hB⟩,.inr ⟨tN hS hge,?_⟩⟩;intro j u ds hj hp
   match j,hp with
   |0,hp=>exact hp
   |1,hp=>exact hp
   |2,hp=>exact hp
   |3,⟨m,s,k,h1,h2⟩=>exact⟨m,s,k,h1,h2.pz hB⟩
   |4,⟨m,s,k,h1,h2⟩=>exact⟨m,s,k,h1,h2.pz hB⟩
   |5,⟨m,s,k,h1,h2⟩=>exact⟨m,s,k,h1,h2.pz hB⟩
   |6,hp=>exact hp
   |7,⟨B',z',h1,h2,h3,h4⟩=>
    by_cases D6:B'=B
    ·subst D6;rw[hB] at h2;cases h2;exact⟨B',_,h1,cM hB,hz.symm.trans h3,h4⟩
    ·exact⟨B',z',h1,(setRow_other D6).trans h2,h3,h4⟩
   |8,_=>exact(hj rfl).elim
   |9,hp=>exact hp
   |j+10,_=>trivial
 intro a W hR;have ho:=hR.s;obtain⟨B29,m2,s2,k2,q1,q2,q3,q4⟩:=hR.val 8 (by decide);have e29:a.eval (aB 29)=pv B29 0:=bt q1;have C:BrC ex [rC] B29 m2 s2 k2 W:=⟨q3,q4⟩
 clear q1 q2 q3 q4;replace F:=F.old ho;replace r6:=r6.old ho;replace qa:=cA qa ho;replace rP:=rP.old ho;replace tu:=tu.old ho;replace Cw:=Cw.old ho;replace hF:=((hR.fr hF (by kernel_rfl)).cons (t:=29) e29).cons (t:=7) (hR.val 9 (by decide));replace hold:=hold.trans ho;clear hR ho e29;replace hF:=hF.del 9;simp only[sF,eQ,reduceIte] at hF
 refine iA quiet bm [pV (aQ (ex.cells m2 s2 k2)),pV (bM #[ah ag 3,ah ag 0]),pV (bM #[ah ag 3,ah ag 0]),pV (ah ag 3),pV (ah ag 0),pV (ah ag 3),pV (ah ag 0)]
  _ (by kernel_rfl) hF.size hF.base ?_ ?_ ?_
 ·exact⟨sV,sV,sV,sV,sV,sV,sV,trivial⟩
 ·refine⟨?_,?_,?_,?_,?_,?_,?_,trivial⟩<;>rintro ev w1 hS hc hg hf ⟨-,Sv,-,-,-,-,-,-,-,-,-,-,-,-,-,-,-,-,-,-,-,-,-,-,-,-,-,-,-⟩ hd
  all_goals try
   try have d0:ev (aB _)=_:=hd.1 rfl
   clear hd;refine yw rfl ?_ rfl;go_simp;done
  ·clear hd;exact k8 28 rfl Sv ((C.old hS).bk) aT rfl (by kernel_rfl) rfl
  ·have d0:ev (aB 212)=_:=hd.1 rfl;clear hd;have F1:=F.old hS;have C1:=C.old hS;refine yc (Pk F1.laid C1.own.tocK) ?_ fun _=>rfl;go_simp
 intro a W hR;have ho:=hR.s;replace F:=F.old ho;replace r6:=r6.old ho;replace qa:=cA qa ho;replace rP:=rP.old ho;replace tu:=tu.old ho;replace Cw:=Cw.old ho;replace C:=C.old ho;replace hF:=((hR.fr hF (by kernel_rfl)).cons (t:=30) (hR.val 5 (by decide))).cons (t:=9) (hR.val 6 (by decide));replace hold:=hold.trans ho;clear hR ho;replace hF:=hF.del 11;simp only[sF,eQ,reduceIte] at hF
 refine iA quiet bm [pV (aQ (ex.cells m2 s2 k2)),pT [ah ag 0] [3,4],pT [ah ag 0] [3,4],pR [3,4],pV (ah ag 0),pR [3,4],pV (ah ag 0)]
  _ (by kernel_rfl) hF.size hF.base ?_ ?_ ?_
 ·exact⟨sV,kT,kT,kR,sV,kR,sV,trivial⟩
 ·refine⟨?_,?_,?_,?_,?_,?_,?_,trivial⟩<;>rintro ev w1 hS hc hg hf ⟨-,-,-,Sv,-,-,-,-,-,-,-,-,-,-,-,-,-,-,-,-,-,-,-,-,-,-,-,-,-,-⟩ hd
  ·clear hd;exact k8 28 rfl Sv ((C.old hS).bk) aT rfl (by kernel_rfl) rfl
  ·have d0:ev (aB 217)=_:=hd.1 rfl;clear hd;have F1:=F.old hS;have C1:=C.old hS;refine Lag.Yields.call (f:=58) (args:=#[aQ (ex.cells m2 s2 k2),ah ag 0]) ?_ (Pm F1.laid C1.own.tocK) ?_
   ·go_simp
   ·rintro e w2 ⟨v,rfl,h1,hb⟩;exact⟨_,rfl,⟨v,rfl,h1⟩,bI hb⟩
  ·have d1:pT _ _ (ev (aB 218)) [] w1:=hd.1 rfl;clear hd;exact yv rfl d1
  ·have d2:pT _ _ (ev (aB 216)) [] w1:=hd.1 rfl;clear hd;obtain⟨x,e0,hx⟩:=d2;refine yv (v:=x) ?_ hx;go_simp
  ·have d2:pT _ _ (ev (aB 216)) [] w1:=hd.1 rfl;clear hd;obtain⟨x,e0,hx⟩:=d2;refine yv ?_ rfl;go_simp
  ·have d3:pR _ (ev (aB 219)) [] w1:=hd.1 rfl;clear hd;exact yv rfl d3
  ·have d4:ev (aB 220)=_:=hd.1 rfl;clear hd;refine yv ?_ rfl;go_simp
 intro a W hR;have ho:=hR.s;have IZ:pR _ (a.eval (aB 31)) [] W:=hR.val 5 (by decide);obtain⟨v31,e31⟩:∃v,a.eval (aB 31)=v:=⟨_,rfl⟩
 rw[e31] at IZ;replace F:=F.old ho;replace r6:=r6.old ho;replace qa:=cA qa ho;replace rP:=rP.old ho;replace tu:=tu.old ho;replace Cw:=Cw.old ho;replace C:=C.old ho;replace hF:=((hR.fr hF (by kernel_rfl)).cons (t:=31) e31).cons (t:=11) (hR.val 6 (by decide));replace hold:=hold.trans ho;clear hR ho e31;replace hF:=hF.del 13;simp only[sF,eQ,reduceIte] at hF
 refine iA quiet bm [pV (aQ (ex.cells m2 s2 k2)),pV (bM #[ah ag 0,ah ag 2,ah ag 0]),pV (bM #[ah ag 0,ah ag 2,ah ag 0]),pV (ah ag 0),pV (ah ag 2),pV (ah ag 0),pV (ah ag 0),pV (ah ag 2),pV (ah ag 0)]
  _ (by kernel_rfl) hF.size hF.base ?_ ?_ ?_
 ·exact⟨sV,sV,sV,sV,sV,sV,sV,sV,sV,trivial⟩
 ·refine⟨?_,?_,?_,?_,?_,?_,?_,?_,?_,trivial⟩<;>rintro ev w1 hS hc hg hf ⟨-,-,-,-,-,Sv,-,-,-,-,-,-,-,-,-,-,-,-,-,-,-,-,-,-,-,-,-,-,-,-,-⟩ hd
  all_goals try
   try have d0:ev (aB _)=_:=hd.1 rfl
   clear hd;refine yw rfl ?_ rfl;go_simp;done
  ·clear hd;exact k8 28 rfl Sv ((C.old hS).bk) aT rfl (by kernel_rfl) rfl
  ·have d0:ev (aB 222)=_:=hd.1 rfl;clear hd;have F1:=F.old hS;have C1:=C.old hS;refine yc (aaW F1.laid C1.own.tocK) ?_ fun _=>rfl;go_simp
 intro a W hR;have ho:=hR.s;replace F:=F.old ho;replace r6:=r6.old ho;replace qa:=cA qa ho;replace rP:=rP.old ho;replace tu:=tu.old ho;replace Cw:=Cw.old ho;replace C:=C.old ho;replace IZ:=IZ.old ho;replace hF:=(((hR.fr hF (by kernel_rfl)).cons (t:=32) (hR.val 6 (by decide))).cons (t:=33) (hR.val 7 (by decide))).cons (t:=13) (hR.val 8 (by decide));replace hold:=hold.trans ho;clear hR ho;replace hF:=hF.del 15;simp only[sF,eQ,reduceIte] at hF
 refine NC quiet (by kernel_rfl) bm [pV (aQ (ex.cells m2 s2 k2)),pV (aQ #[ah ag 0,ah ag 0]),pU (ex.lk 0 0) [rC],pU (ex.lk 0 0) [rC],pB (ex.lk 0 0) [rC],pV (ah ag 0),pA W 28 15,pSB W (ex.lk 0 0) [rC],pV (ah ag 0)]
  _ (by kernel_rfl) hF.size hF.base ?_ ?_ ?_
 ·exact⟨sV,sV,kU,kU,kB,sV,kA,kSB,sV,trivial⟩
 ·refine⟨?_,?_,?_,?_,?_,?_,?_,?_,?_,trivial⟩<;>rintro ev w1 hS hc hg hf ⟨-,-,-,-,-,-,-,-,Sv,-,-,-,-,-,-,-,-,-,-,-,-,-,-,-,-,-,-,-,-,-,-,-,-⟩ hd
  ·clear hd;exact k8 28 rfl Sv ((C.old hS).bk) aT rfl (by kernel_rfl) rfl
  ·clear hd;refine yc (CA 0 w1) ?_ fun _=>rfl;go_simp
  ·have d0:ev (aB 228)=_:=hd.1 rfl;have d1:ev (aB 229)=_:=hd.2.1 rfl;clear hd;have F1:=F.old hS;have C1:=C.old hS;refine Lag.Yields.call (f:=80) (args:=#[aQ (ex.cells m2 s2 k2),aQ #[ah ag 0,ah ag 0]]) ?_ (UB F1.laid C1.own.tocK) ?_
   ·go_simp
   ·rintro e w2 ⟨m,s,k,rfl,h1,hb⟩;exact⟨_,rfl,⟨m,s,k,rfl,h1⟩,bI hb⟩
  ·have d2:pU _ _ (ev (aB 230)) [] w1:=hd.1 rfl;clear hd;exact yv rfl d2
  ·have d3:pU _ _ (ev (aB 227)) [] w1:=hd.1 rfl;clear hd;obtain⟨m,s,k,e0,hx⟩:=d3;refine Lag.Yields.value (v:=aQ ((ex.lk 0 0).cells m s k)) (w':=w1) ?_ ⟨⟨m,s,k,rfl,hx⟩,bI (aw _ _)⟩;go_simp
  ·have d3:pU _ _ (ev (aB 227)) [] w1:=hd.1 rfl;clear hd;obtain⟨m,s,k,e0,hx⟩:=d3;refine yv ?_ rfl;go_simp
  ·clear hd;refine Lag.Yields.value (v:=pv w1.heap.size 0) (w':=w1.alloc (au OA 28)) ?_ ⟨⟨_,_,rfl,ax _ _,rfl,hS.size⟩,bI ((aw _ _).alloc (ay _) _)⟩;go_simp
  ·have d6:pA _ _ _ (ev (aB 34)) [] w1:=hd.1 rfl;have d4:pB _ _ (ev (aB 231)) [] w1:=hd.2.1 rfl;clear hd;obtain⟨B,z,eB,hB,hz,hge⟩:=d6;obtain⟨m,s,k,ex0,hx⟩:=d4;obtain⟨p1,c1,rfl,_⟩:=aV hx.rm;obtain⟨p2,c2,rfl,_⟩:=aV hx.rs;obtain⟨p3,c3,rfl,_⟩:=aV hx.rk;refine Lag.Yields.lR 28 _ _ rfl B ((ex.lk 0 0).cells (ae p1 j8.length c1) (ae p2 ([]:List Int).length c2) (ae p3 ([rC]:List Mk).length c3)) eB ex0 28 z hB (by kernel_rfl) hz (by simp[cy]) ⟨⟨B,_,_,_,congrArg some eB,hge,cM hB,hx.pz hB⟩,.inr ⟨tN hS hge,?_⟩⟩;intro j u ds hj hp
   match j,hp with
   |0,hp=>exact hp
   |1,hp=>exact hp
   |2,⟨m,s,k,h1,h2⟩=>exact⟨m,s,k,h1,h2.pz hB⟩
   |3,⟨m,s,k,h1,h2⟩=>exact⟨m,s,k,h1,h2.pz hB⟩
   |4,⟨m,s,k,h1,h2⟩=>exact⟨m,s,k,h1,h2.pz hB⟩
   |5,hp=>exact hp
   |6,⟨B',z',h1,h2,h3,h4⟩=>
    by_cases D6:B'=B
    ·subst D6;rw[hB] at h2;cases h2;exact⟨B',_,h1,cM hB,hz.symm.trans h3,h4⟩
    ·exact⟨B',z',h1,(setRow_other D6).trans h2,h3,h4⟩
   |7,_=>exact(hj rfl).elim
   |8,hp=>exact hp
   |j+9,_=>trivial
  ·have d5:ev (aB 232)=_:=hd.1 rfl;clear hd;refine yv ?_ rfl;go_simp
 intro a W hR;have ho:=hR.s;obtain⟨B34,m3,s3,k3,q1,q2,q3,q4⟩:=hR.val 7 (by decide);have e34:a.eval (aB 34)=pv B34 0:=bt q1;have O:BrC (ex.lk 0 0) [rC] B34 m3 s3 k3 W:=⟨q3,q4⟩
 clear q1 q2 q3 q4;replace F:=F.old ho;replace r6:=r6.old ho;replace qa:=cA qa ho;replace rP:=rP.old ho;replace tu:=tu.old ho;replace Cw:=Cw.old ho;replace C:=C.old ho;replace IZ:=IZ.old ho;replace hF:=((hR.fr hF (by kernel_rfl)).cons (t:=34) e34).cons (t:=15) (hR.val 8 (by decide));replace hold:=hold.trans ho;clear hR ho e34;replace hF:=hF.del 18;simp only[sF,eQ,reduceIte] at hF
 refine iA quiet bm [pV (aQ ((ex.lk 0 0).cells m3 s3 k3)),pT [ah ag 0] [4],pT [ah ag 0] [4],pR [4],pV (ah ag 0),pR [4],pV (ah ag 0)]
  _ (by kernel_rfl) hF.size hF.base ?_ ?_ ?_
 ·exact⟨sV,kT,kT,kR,sV,kR,sV,trivial⟩
 ·refine⟨?_,?_,?_,?_,?_,?_,?_,trivial⟩<;>rintro ev w1 hS hc hg hf ⟨-,b34,-,-,-,-,-,-,-,-,-,-,-,-,-,-,-,-,-,-,-,-,-,-,-,-,-,-,-,-,-,-,-,-⟩ hd
  ·clear hd;exact k8 28 rfl b34 ((O.old hS).bk) aT rfl (by kernel_rfl) rfl
  ·have d0:ev (aB 234)=_:=hd.1 rfl;clear hd;have F1:=F.old hS;have O1:=O.old hS;refine Lag.Yields.call (f:=58) (args:=#[aQ ((ex.lk 0 0).cells m3 s3 k3),ah ag 0]) ?_ (Mj F1.laid O1.own.tocK) ?_
   ·go_simp
   ·rintro e w2 ⟨v,rfl,h1,hb⟩;exact⟨_,rfl,⟨v,rfl,h1⟩,bI hb⟩
  ·have d1:pT _ _ (ev (aB 235)) [] w1:=hd.1 rfl;clear hd;exact yv rfl d1
  ·have d2:pT _ _ (ev (aB 233)) [] w1:=hd.1 rfl;clear hd;obtain⟨x,e0,hx⟩:=d2;refine yv (v:=x) ?_ hx;go_simp
  ·have d2:pT _ _ (ev (aB 233)) [] w1:=hd.1 rfl;clear hd;obtain⟨x,e0,hx⟩:=d2;refine yv ?_ rfl;go_simp
  ·have d3:pR _ (ev (aB 236)) [] w1:=hd.1 rfl;clear hd;exact yv rfl d3
  ·have d4:ev (aB 237)=_:=hd.1 rfl;clear hd;refine yv ?_ rfl;go_simp
 intro a W hR;have ho:=hR.s;have PO:pR _ (a.eval (aB 35)) [] W:=hR.val 5 (by decide);obtain⟨v35,e35⟩:∃v,a.eval (aB 35)=v:=⟨_,rfl⟩
 rw[e35] at PO;replace F:=F.old ho;replace r6:=r6.old ho;replace qa:=cA qa ho;replace rP:=rP.old ho;replace tu:=tu.old ho;replace Cw:=Cw.old ho;replace C:=C.old ho;replace IZ:=IZ.old ho;replace O:=O.old ho;replace hF:=((hR.fr hF (by kernel_rfl)).cons (t:=35) e35).cons (t:=18) (hR.val 6 (by decide));replace hold:=hold.trans ho;clear hR ho e35;replace hF:=hF.del 21;simp only[sF,eQ,reduceIte] at hF
 refine iA quiet bm [pV (aQ (ex.cells m2 s2 k2)),pV (bM #[aQ gK,ah ag 7]),pV (bM #[aQ gK,ah ag 7]),pV (aQ gK),pV (ah ag 7),pV (ah ag 7)]
  _ (by kernel_rfl) hF.size hF.base ?_ ?_ ?_
 ·exact⟨sV,sV,sV,sV,sV,sV,trivial⟩
 ·refine⟨?_,?_,?_,?_,?_,?_,trivial⟩<;>rintro ev w1 hS hc hg hf ⟨-,-,-,-,-,-,-,-,-,-,-,-,Sv,-,-,-,-,-,-,-,-,-,-,-,-,-,-,-,-,-,-,-,-,-,-⟩ hd
  all_goals try
   try have d0:ev (aB _)=_:=hd.1 rfl
   clear hd;refine yw rfl ?_ rfl;go_simp;done
  ·clear hd;exact k8 28 rfl Sv ((C.old hS).bk) aT rfl (by kernel_rfl) rfl
  ·have d0:ev (aB 239)=_:=hd.1 rfl;clear hd;have F1:=F.old hS;have C1:=C.old hS;refine yc (XY F1.laid C1.own.tocK) ?_ fun _=>rfl;go_simp
 intro a W hR;have ho:=hR.s;replace F:=F.old ho;replace r6:=r6.old ho;replace qa:=cA qa ho;replace rP:=rP.old ho;replace tu:=tu.old ho;replace Cw:=Cw.old ho;replace C:=C.old ho;replace IZ:=IZ.old ho;replace O:=O.old ho;replace PO:=PO.old ho;replace hF:=(hR.fr hF (by kernel_rfl)).cons (t:=21) (hR.val 5 (by decide));replace hold:=hold.trans ho;clear hR ho;replace hF:=hF.del 24;simp only[sF,eQ,reduceIte] at hF
 refine NC quiet (by kernel_rfl) bm [pV (aQ (ex.cells m2 s2 k2)),pV (aQ #[ah ag 12,ah ag 12]),pV (aQ #[ah ag 1,ah ag 12,ah ag 12]),pM m2 s2,pT [ah ag 0] [0,1],pT [ah ag 0] [0,1],pR [0,1],pV (ah ag 0),pR [0,1],pV (ah ag 0)]
  _ (by kernel_rfl) hF.size hF.base ?_ ?_ ?_
 ·exact⟨sV,sV,sV,kM,kT,kT,kR,sV,kR,sV,trivial⟩
 ·refine⟨?_,?_,?_,?_,?_,?_,?_,?_,?_,?_,trivial⟩<;>rintro ev w1 hS hc hg hf ⟨-,-,-,-,-,-,-,-,-,-,-,-,-,Sv,-,-,-,-,-,-,-,-,-,-,-,-,-,-,-,-,-,-,-,-,-⟩ hd
  all_goals try
   try have d0:ev (aB _)=_:=hd.1 rfl
   clear hd;refine yw rfl ?_ rfl;go_simp;done
  ·clear hd;exact k8 28 rfl Sv ((C.old hS).bk) aT rfl (by kernel_rfl) rfl
  ·clear hd;refine yc (CA 12 w1) ?_ fun _=>rfl;go_simp
  ·have d0:ev (aB 244)=_:=hd.1 rfl;have d2:ev (aB 246)=_:=hd.2.1 rfl;clear hd;have F1:=F.old hS;have C1:=C.old hS;refine Lag.Yields.call (f:=88) (args:=#[aQ (ex.cells m2 s2 k2),aQ #[ah ag 1,ah ag 12,ah ag 12]]) ?_ (R1 C1.own.tocK) ?_
   ·go_simp
   ·rintro e w2 ⟨k',rfl,h1,hb⟩;exact⟨_,rfl,⟨k',rfl,h1⟩,bI hb⟩
  ·have d3:pM _ _ (ev (aB 247)) [] w1:=hd.1 rfl;clear hd;have F1:=F.old hS;obtain⟨k',e3,hk⟩:=d3;refine Lag.Yields.call (f:=50) (args:=#[aQ (ex.cells m2 s2 k')]) ?_ (UA F1.laid hk) ?_
   ·go_simp
   ·rintro e w2 ⟨v,rfl,h1,hb⟩;exact⟨_,rfl,⟨v,rfl,h1⟩,bI hb⟩
  ·have d4:pT _ _ (ev (aB 248)) [] w1:=hd.1 rfl;clear hd;exact yv rfl d4
  ·have d5:pT _ _ (ev (aB 243)) [] w1:=hd.1 rfl;clear hd;obtain⟨x,e0,hx⟩:=d5;refine yv (v:=x) ?_ hx;go_simp
  ·have d5:pT _ _ (ev (aB 243)) [] w1:=hd.1 rfl;clear hd;obtain⟨x,e0,hx⟩:=d5;refine yv ?_ rfl;go_simp
  ·have d6:pR _ (ev (aB 249)) [] w1:=hd.1 rfl;clear hd;exact yv rfl d6
 intro a W hR;have ho:=hR.s;have U3:pR _ (a.eval (aB 36)) [] W:=hR.val 8 (by decide);obtain⟨v36,e36⟩:∃v,a.eval (aB 36)=v:=⟨_,rfl⟩
 rw[e36] at U3;replace F:=F.old ho;replace r6:=r6.old ho;replace qa:=cA qa ho;replace rP:=rP.old ho;replace tu:=tu.old ho;replace Cw:=Cw.old ho;replace C:=C.old ho;replace IZ:=IZ.old ho;replace O:=O.old ho;replace PO:=PO.old ho;replace hF:=((hR.fr hF (by kernel_rfl)).cons (t:=36) e36).cons (t:=24) (hR.val 9 (by decide));replace hold:=hold.trans ho;clear hR ho e36;refine jD quiet ?_
 refine iA quiet (dV bm) [pV (ah ag 0),pV (aA false),pV (aA false),pV (ah ag 0),pV (aA false),pV (aA false),pV (aA false),pV (ah ag 0),pV (aA false),pV (aA false),pV (aA false),pV (ah ag 0),pV (aA false),pV (aA false),pV (aA false),pV (ah ag 0),pV (aA false),pV (aA false),pV (aA false),pV (ah ag 0),pV (aA false),pV (aA false),pV (aA false),pV (ah ag 0),pV (aA false),pV (aA false),pV (aA false),pV (ah ag 0),pV (aA false),pV (aA false),pV (aA false),pV (ah ag 7),pV (aA false),pV (aA false),pV (aA false),pV (ah ag 0),pV (aA false),pV (aA false)]
  _ (by kernel_rfl) hF.size hF.base ?_ ?_ ?_
 ·exact⟨sV,sV,sV,sV,sV,sV,sV,sV,sV,sV,sV,sV,sV,sV,sV,sV,sV,sV,sV,sV,sV,sV,sV,sV,sV,sV,sV,sV,sV,sV,sV,sV,sV,sV,sV,sV,sV,sV,trivial⟩
 ·refine⟨?_,?_,?_,?_,?_,?_,?_,?_,?_,?_,?_,?_,?_,?_,?_,?_,?_,?_,?_,?_,?_,?_,?_,?_,?_,?_,?_,?_,?_,?_,?_,?_,?_,?_,?_,?_,?_,?_,trivial⟩<;>rintro ev w1 hS hc hg hf ⟨b24,-,b21,b18,-,b15,-,b13,-,-,b11,-,b9,-,b7,-,b5,-,-,b3,-,-,-,-,-,-,-,-,-,-,-,-,-,-,-,-,-⟩ hd
  all_goals try
   try have d0:ev (aB _)=_:=hd.1 rfl
   try have d1:ev (aB _)=_:=hd.2.1 rfl
   clear hd
   first|refine yw rfl ?_ rfl|refine gL d0 (yw rfl ?_ rfl)|refine gL d1 (yw rfl ?_ rfl)
   go_simp;done
 intro a W hR;have ho:=hR.s;replace F:=F.old ho;replace r6:=r6.old ho;replace qa:=cA qa ho;replace rP:=rP.old ho;replace tu:=tu.old ho;replace Cw:=Cw.old ho;replace C:=C.old ho;replace IZ:=IZ.old ho;replace O:=O.old ho;replace PO:=PO.old ho;replace U3:=U3.old ho;replace hF:=(hR.fr hF (by kernel_rfl)).cons (t:=288) (hR.val 37 (by decide));replace hold:=hold.trans ho;clear hR ho;refine m8 quiet (t:=false) (hF.g 0 rfl) ?_;show nN aq Code.skip _ _ _;refine oF quiet (dV bm) fun τ d=>?_;replace F:=F.old (cY W τ d);replace r6:=r6.old (cY W τ d);replace qa:=cA qa (cY W τ d);replace rP:=rP.old (cY W τ d);replace tu:=tu.old (cY W τ d);replace Cw:=Cw.old (cY W τ d);replace C:=C.old (cY W τ d);replace IZ:=IZ.old (cY W τ d);replace O:=O.old (cY W τ d);replace PO:=PO.old (cY W τ d);replace U3:=U3.old (cY W τ d);replace hold:Old W0 (cX W τ d):=hold.trans (cY W τ d);show nN aq _ _ _ (cX W τ d);generalize cX W τ d=W2 at *;clear W;rename ar=>W;replace hF:=hF.tl
 refine iA quiet bm [pV (ah ag 44),pV (aA true),pV (aA true),pV (aA true),pV (aA true),pV (aA true),pV (aA true),pV (aA true),pV (aA true),pV (v27),pL [0],pV (aA true),pV (aA true),pV (aA true),pV (ah ag 3),pV (aA true),pV (aA true),pV (aA true),pV (v31),pL [3,4],pV (aA true),pV (aA true),pV (aA true),pV (ah ag 0),pV (aA true),pV (aA true),pV (aA true),pV (ah ag 2),pV (aA true),pV (aA true),pV (aA true),pV (v35),pL [4],pV (aA true),pV (aA true),pV (aA true),pV (v36),pL [0,1],pV (aA true),pV (aA true),pV (aA true)]
  _ (by kernel_rfl) hF.size hF.base ?_ ?_ ?_
 ·exact⟨sV,sV,sV,sV,sV,sV,sV,sV,sV,sV,kL,sV,sV,sV,sV,sV,sV,sV,sV,kL,sV,sV,sV,sV,sV,sV,sV,sV,sV,sV,sV,sV,kL,sV,sV,sV,sV,kL,sV,sV,sV,trivial⟩
 ·refine⟨?_,?_,?_,?_,?_,?_,?_,?_,?_,?_,?_,?_,?_,?_,?_,?_,?_,?_,?_,?_,?_,?_,?_,?_,?_,?_,?_,?_,?_,?_,?_,?_,?_,?_,?_,?_,?_,?_,?_,?_,?_,trivial⟩<;>rintro ev w1 hS hc hg hf ⟨-,b36,-,-,b35,-,-,-,b33,b32,-,b31,-,b30,-,-,-,b28,b27,-,b26,b25,-,-,-,-,-,-,-,-,-,-,-,-,-,-,-⟩ hd
  all_goals try
   try have d0:ev (aB _)=_:=hd.1 rfl
   try have d1:ev (aB _)=_:=hd.2.1 rfl
   clear hd
   first|refine yw rfl ?_ rfl|refine gL d0 (yw rfl ?_ rfl)|refine gL d1 (yw rfl ?_ rfl)
   go_simp;done
  ·have d8:ev (aB 297)=_:=hd.1 rfl;clear hd;refine gL d8 ?_;refine Lag.Yields.value (v:=ae (some ⟨w1.heap.size,0,none⟩) 1 1) (w':=w1.alloc (au #[ah ag 0] 3)) ?_ ⟨⟨_,rfl,ax _ _⟩,bI ((aw _ _).alloc (ay _) _)⟩;go_simp
  ·have d9:ev (aB 298)=_:=hd.1 rfl;have d10:pL _ (ev (aB 299)) [] w1:=hd.2.1 rfl;have d8:ev (aB 297)=_:=hd.2.2.1 rfl;clear hd;refine gL d8 ?_;obtain⟨q10,Io,adb⟩:=d10;refine yc (nV [0] _ _ w1 (Cw.old hS) (jc (l:=[0]) adb (by decide))) ?_ fun _=>rfl;go_simp
  ·have d17:ev (aB 306)=_:=hd.1 rfl;clear hd;refine gL d17 ?_;refine Lag.Yields.value (v:=ae (some ⟨w1.heap.size,0,none⟩) 2 2) (w':=w1.alloc (au #[ah ag 3,ah ag 4] 3)) ?_ ⟨⟨_,rfl,ax _ _⟩,bI ((aw _ _).alloc (ay _) _)⟩;go_simp
  ·have d18:ev (aB 307)=_:=hd.1 rfl;have d19:pL _ (ev (aB 308)) [] w1:=hd.2.1 rfl;have d17:ev (aB 306)=_:=hd.2.2.1 rfl;clear hd;refine gL d17 ?_;obtain⟨q19,e19,ac9⟩:=d19;refine yc (nV [3,4] _ _ w1 (IZ.old hS) (jc (l:=[3,4]) ac9 (by decide))) ?_ fun _=>rfl;go_simp
  ·have d30:ev (aB 319)=_:=hd.1 rfl;clear hd;refine gL d30 ?_;refine Lag.Yields.value (v:=ae (some ⟨w1.heap.size,0,none⟩) 1 1) (w':=w1.alloc (au #[ah ag 4] 3)) ?_ ⟨⟨_,rfl,ax _ _⟩,bI ((aw _ _).alloc (ay _) _)⟩;go_simp
  ·have d31:ev (aB 320)=_:=hd.1 rfl;have d32:pL _ (ev (aB 321)) [] w1:=hd.2.1 rfl;have d30:ev (aB 319)=_:=hd.2.2.1 rfl;clear hd;refine gL d30 ?_;obtain⟨q32,e32,ac7⟩:=d32;refine yc (nV [4] _ _ w1 (PO.old hS) (jc (l:=[4]) ac7 (by decide))) ?_ fun _=>rfl;go_simp
  ·have d35:ev (aB 324)=_:=hd.1 rfl;clear hd;refine gL d35 ?_;refine Lag.Yields.value (v:=ae (some ⟨w1.heap.size,0,none⟩) 2 2) (w':=w1.alloc (au #[ah ag 0,ah ag 1] 3)) ?_ ⟨⟨_,rfl,ax _ _⟩,bI ((aw _ _).alloc (ay _) _)⟩;go_simp
  ·have d36:ev (aB 325)=_:=hd.1 rfl;have d37:pL _ (ev (aB 326)) [] w1:=hd.2.1 rfl;have d35:ev (aB 324)=_:=hd.2.2.1 rfl;clear hd;refine gL d35 ?_;obtain⟨q37,e37,ac6⟩:=d37;refine yc (nV [0,1] _ _ w1 (U3.old hS) (jc (l:=[0,1]) ac6 (by decide))) ?_ fun _=>rfl;go_simp
 intro a W hR;have ho:=hR.s;replace F:=F.old ho;replace r6:=r6.old ho;replace qa:=cA qa ho;replace rP:=rP.old ho;replace tu:=tu.old ho;replace Cw:=Cw.old ho;replace C:=C.old ho;replace IZ:=IZ.old ho;replace O:=O.old ho;replace PO:=PO.old ho;replace U3:=U3.old ho;replace hF:=(hR.fr hF (by kernel_rfl)).cons (t:=0) (hR.val 40 (by decide));replace hold:=hold.trans ho;clear hR ho;exact mg quiet bm fun τ d=>wp_ret ⟨hF.defers,_,cD rfl _ _ _,(hF.g 0 rfl),np τ d hold⟩
theorem qY{W w:ar}(h:Old W w){B i:Nat}{u:ak}(hB:W.heap.size≤B):Old W (w.setCell ⟨B,i,none⟩ u):=
 ⟨h.os,h.output,by simpa [World.setCell] using h.size,fun k hk=>(Below.heap_setCell w ⟨B,i,none⟩ u k (by show k≠B;omega)).trans (h.block k hk)⟩
theorem fp.dep{b:BB}{pl:List Int}(h:fp b pl)(d:Int):fp (b.dep d) pl:=⟨h.mem,h.asc,h.len⟩
theorem TK(b:BB):lu b []:=⟨by simp,by simp⟩
theorem CD(w:ar):Reads w (ae none 0 0) 0 []:=bI ⟨rfl,rfl,rfl⟩
theorem Nz{b:BB}{ml:List Mn}{M:ak}{W:ar}(h:b.Ok)(hm:wY ml)(hr:Reads W M ml.length (gu ml)):cK b M (ae none 0 0) (ae none 0 0) ml [] [] W:=
 ⟨h,hm,fp.nil h,TK b,hr,CD W,CD W⟩
theorem BP(n l m:Int)(w:ar)(h:aL n l m=true):bp aq 35 #[ah ag n,ah ag l,ah ag m] w fun e w'=>e=aG (aA true)∧aC w.heap.size w w':=by
 have:=gF n l m w;rwa [h] at this
theorem Lr{b:BB}{pl:List Int}{w:ar}{B:Nat}{v:ak}(hpl:fp b pl)(h:w.ownsRow B 3 1 v pl.length (pl.map (aM ag)))(hc:b.ek≤3):Reads w v pl.length (pl.map (aM ag)):=
 Reads.jP h (by have:=hpl.len;omega) (by simp)
theorem Ya(b:BB)(p1 p2 p3:Option Addr)(c1 n2 c2 n3 c3:Nat)(ml:List Mn)(x:Int)(dn:Nat)(hdn:dn<256){W0:ar}(hL:Laid W0)(hv:Reads W0 (ae p1 ml.length c1) ml.length (gu ml)):j6 aq 7 #[aQ (b.cells (ae p1 ml.length c1) (ae p2 n2 c2) (ae p3 n3 c3)),ah .u16 x,ah .u8 (dn:Int)] W0 fun v W'=>v=aA true∧Old W0 W':=by
 obtain⟨n,sw,xw⟩:∃n:Nat,n<100∧(dn:Int).tmod 100=(n:Int):=⟨dn % 100,by omega,by rw[Int.tmod_eq_emod_of_nonneg (by omega)];omega⟩
 refine kZ quiet Tryz.func7 rfl ?hR ?body
 case hR=>
  rintro v W' τ d ⟨h1,h2⟩;exact⟨h1,vQ h2⟩
 have hF:=l9 (args:=#[aQ (b.cells (ae p1 ml.length c1) (ae p2 n2 c2) (ae p3 n3 c3)),ah .u16 x,ah .u8 (dn:Int)]) (n:=91) (by simp) [(2,ah .u8 (dn:Int)),(1,ah .u16 x),(0,aQ (b.cells (ae p1 ml.length c1) (ae p2 n2 c2) (ae p3 n3 c3)))] ⟨oX rfl,oX rfl,oX rfl,trivial⟩;rw[show Tryz.f7.ntmps=91 from rfl];generalize (⟨#[aQ (b.cells (ae p1 ml.length c1) (ae p2 n2 c2) (ae p3 n3 c3)),ah .u16 x,ah .u8 (dn:Int)]++aU (91-(#[aQ (b.cells (ae p1 ml.length c1) (ae p2 n2 c2) (ae p3 n3 c3)),ah .u16 x,ah .u8 (dn:Int)]:Array ak).size) undef,[]⟩:Act)=a at *;have hold:Old W0 W0:=Old.refl W0;refine(fun h:∀W,Old W0 W→nN aq _ (F4 aq Tryz.f7 fun v W'=>v=aA true∧Old W0 W') a W=>h W0 (Old.refl W0)) ?_;clear hold;intro W hold
 refine iA quiet bm [fun v ds w9=>∃B,v=pv B 0∧w9.heap[B]?=some (au (b.cells (ae p1 ml.length c1) (ae p2 n2 c2) (ae p3 n3 c3)) 28 (0,0))∧W.heap.size≤B,pV (aA false)]
  _ (by kernel_rfl) hF.size hF.base ?_ ?_ ?_
 ·refine⟨?_,sV,trivial⟩
  ·rintro v ds w1 w2 hS ⟨B,h1,h2,h3⟩ hb;exact⟨B,h1,aK h2 hb,h3⟩
 ·refine⟨?_,?_,trivial⟩<;>rintro ev w1 hS hc hg hf ⟨-,-,b0,-⟩ hd
  ·clear hd;refine Lag.Yields.value (v:=pv w1.heap.size 0) (w':=w1.alloc (au (b.cells (ae p1 ml.length c1) (ae p2 n2 c2) (ae p3 n3 c3)) 28)) ?_ ⟨⟨_,rfl,ax _ _,hS.size⟩,bI ((aw _ _).alloc (ay _) _)⟩;go_simp
  ·clear hd;refine yv ?_ rfl;go_simp
 intro a W hR;have ho:=hR.s;obtain⟨B3,e3,K3,G3⟩:=hR.val 0 (by decide);replace G3:W0.heap.size≤B3:=bq hold.size G3;replace e3:a.eval (aB 3)=a8 (some ⟨B3,0,none⟩):=e3;replace hold:=hold.trans ho;replace hF:=((hR.fr hF (by kernel_rfl)).cons (t:=3) e3).cons (t:=6) (hR.val 1 (by decide));clear hR ho e3
 refine U7 quiet bm (fun w9=>Old W0 w9∧∃s9 k9,w9.heap[B3]?=some (au (b.cells (ae p1 ml.length c1) s9 k9) 28 (0,0))) (fun _ _ h hb=>⟨h.1.trans (Old.of_below hb),h.2.imp fun _ h=>h.imp fun _ h=>aK h hb⟩) (fun τ d=>⟨hold.trans (cY W τ d),_,_,K3⟩) [pV (a8 (some ⟨B3,13,none⟩)),fun v ds w9=>∃k9,w9.heap[B3]?=some (au (b.cells (ae p1 ml.length c1) (ae none 0 0) k9) 28 (0,0)),pV (a8 (some ⟨B3,14,none⟩)),fun v ds w9=>w9.heap[B3]?=some (au (b.cells (ae p1 ml.length c1) (ae none 0 0) (ae none 0 0)) 28 (0,0))]
  _ (by kernel_rfl) hF.size hF.base ?_ ?_ ?_
 ·refine⟨sV,?_,sV,?_,trivial⟩
  ·rintro v ds w1 w2 hS ⟨k9,h1⟩ hb;exact⟨k9,aK h1 hb⟩
  ·intro v ds w1 w2 hS h1 hb;exact aK h1 hb
 ·refine⟨?_,?_,?_,?_,trivial⟩<;>rintro ev w1 hS hc hg hf ⟨-,b3,-,-,-,-⟩ hd
  all_goals try
   clear hd;refine yw rfl ?_ rfl;go_simp;done
  ·have d0:ev (aB 16)=_:=hd.1 rfl;clear hd;obtain⟨h0,s9,k9,hB⟩:=hS;have z:=aH hB 13 _ rfl;have zf:=cI hB 13;refine Lag.Yields.skip (w':=w1.setCell ⟨B3,13,none⟩ (ae none 0 0)) ?_ ⟨⟨k9,bT _ hB⟩,.inr ⟨⟨qY h0 G3,_,k9,bT _ hB⟩,?_⟩⟩
   ·go_simp
   ·intro j u ds hj hp
    match j,hp with
    |0,hp=>exact hp
    |1,_=>exact(hj rfl).elim
    |2,hp=>exact hp
    |3,hp=>exact bT (i:=13) (ae none 0 0) hp
    |j+4,_=>trivial
  ·have d2:ev (aB 17)=_:=hd.1 rfl;have d1:∃k9,w1.heap[B3]?=some (au (b.cells (ae p1 ml.length c1) (ae none 0 0) k9) 28 (0,0)):=hd.2.1 rfl;clear hd;obtain⟨h0,-⟩:=hS;obtain⟨k9,hB⟩:=d1;have z:=aH hB 14 _ rfl;have zf:=cI hB 14;refine Lag.Yields.skip (w':=w1.setCell ⟨B3,14,none⟩ (ae none 0 0)) ?_ ⟨bT _ hB,.inr ⟨⟨qY h0 G3,_,_,bT _ hB⟩,?_⟩⟩
   ·go_simp
   ·intro j u ds hj hp
    match j,hp with
    |0,hp=>exact hp
    |1,_=>exact⟨_,bT _ hB⟩
    |2,hp=>exact hp
    |3,_=>exact(hj rfl).elim
    |j+4,_=>trivial
 intro a W hR;replace hold:Old W0 W:=hR.s.1;clear K3;have K3:W.heap[B3]?=some (au (b.cells (ae p1 ml.length c1) (ae none 0 0) (ae none 0 0)) 28 (0,0)):=hR.val 3 (by decide);replace hF:=hR.fr hF (by kernel_rfl);clear hR;refine jD quiet ?_
 refine iA quiet (dV bm) [pV (aQ (b.cells (ae p1 ml.length c1) (ae none 0 0) (ae none 0 0))),pV (aA (Ki b ml [] [])),pV (aA (!(Ki b ml [] [])))]
  _ (by kernel_rfl) hF.size hF.base ?_ ?_ ?_
 ·exact⟨sV,sV,sV,trivial⟩
 ·refine⟨?_,?_,?_,trivial⟩<;>rintro ev w1 hS hc hg hf ⟨-,b3,-,-,-,-⟩ hd
  ·clear hd;have jG:=cA K3 hS;exact k8 28 rfl b3 jG aT rfl (by kernel_rfl) (rfl)
  ·have d0:ev (aB 18)=_:=hd.1 rfl;clear hd;refine yc (args:=#[aQ (b.cells (ae p1 ml.length c1) (ae none 0 0) (ae none 0 0))]) (Ux b _ _ _ _ _ _ ml [] [] w1 (hv.old (hold.trans hS)) (CD _) (CD _)) ?_ (fun _=>rfl);go_simp
  ·have d1:ev (aB 19)=_:=hd.1 rfl;clear hd;refine yv ?_ rfl;go_simp
 intro a W hR;have ho:=hR.s;replace hold:=hold.trans ho;replace K3:=cA K3 ho;replace hF:=(hR.fr hF (by kernel_rfl)).cons (t:=20) (hR.val 2 (by decide));clear hR ho;refine zN quiet (t:=(!(Ki b ml [] []))) (hF.g 0 rfl) (fun aaw=>?_) (fun aaw=>?_)
 ·skip
  replace hF:=hF.tl;replace hF:=hF.tl
  refine Ni quiet (dV bm) (fun i=>i==0) [pV (aA true),pV (aA true)]
   _ (by kernel_rfl) hF.size hF.base ?_ ?_ ?_
  ·exact⟨vV,vV,trivial⟩
  ·refine⟨?_,?_,trivial⟩<;>rintro ev w1 hS hc hg hf hb hd
   ·clear hd;refine Cv rfl ?_;refine⟨19,#[],_,fun w9=>?_,tZ (hL.old (hold.trans hS)),fun v W' hv=>uY (mJ.all (by exact⟨fun _ _ _ _ h _=>h,fun _ _ _ _ h _=>h,trivial⟩)) hS hv.2 hv.1⟩;go_simp
   ·have d0:ev (aB 21)=_:=hd.1 rfl;clear hd;refine nS rfl ?_;refine yv ?_ rfl;go_simp
  intro a W hR;have ho:=hR.s;replace hold:=hold.trans ho;replace K3:=cA K3 ho;replace hF:=(hR.fr hF (by kernel_rfl)).cons (t:=6) (hR.val 1 (by decide));clear hR ho;exact mg quiet (dV bm) fun τ d=>wp_ret ⟨hF.defers,_,cD rfl _ _ _,(hF.g 0 rfl),np τ d hold⟩
 ·skip
  replace hF:=hF.tl;have Rx:Ki b ml [] []=true:=by simpa using aaw
  obtain⟨cZ,LX,-,-⟩:=XX Rx;show nN aq Code.skip _ _ _;refine oF quiet (dV bm) fun τ0 δ0=>?_;have ho:=cY W τ0 δ0;replace hold:=hold.trans ho;replace K3:=cA K3 ho;clear ho;generalize cX W τ0 δ0=W2 at *;clear W;rename ar=>W;show nN aq _ _ _ W
  refine iA quiet bm [pV (aQ (b.cells (ae p1 ml.length c1) (ae none 0 0) (ae none 0 0))),pV (ah .u16 x),fun v ds w9=>∃pl,fp b pl∧Reads w9 v pl.length (pl.map (aM ag)),pV (ah .u8 (dn:Int)),pV (ah ag (dn:Int)),pV (ah ag (n:Int)),fun v ds w9=>∃pl,fp b pl∧Reads w9 v pl.length (pl.map (aM ag)),pV (ah ag (n:Int))]
   _ (by kernel_rfl) hF.size hF.base ?_ ?_ ?_
  ·refine⟨sV,sV,?_,sV,sV,sV,?_,sV,trivial⟩
   ·rintro v ds w1 w2 hS ⟨pl,h1,h2⟩ hb;exact⟨pl,h1,h2.below hb⟩
   ·rintro v ds w1 w2 hS ⟨pl,h1,h2⟩ hb;exact⟨pl,h1,h2.below hb⟩
  ·refine⟨?_,?_,?_,?_,?_,?_,?_,?_,trivial⟩<;>rintro ev w1 hS hc hg hf ⟨-,b3,b2,b1,-,-⟩ hd
   all_goals try
    try have d0:ev (aB _)=_:=hd.1 rfl
    clear hd;refine yw rfl ?_ rfl;go_simp;done
   ·clear hd;have jG:=cA K3 hS;exact k8 28 rfl b3 jG aT rfl (by kernel_rfl) (rfl)
   ·have d0:ev (aB 22)=_:=hd.1 rfl;have d1:ev (aB 23)=_:=hd.2.1 rfl;clear hd;refine Lag.Yields.call (f:=31) (args:=#[aQ (b.cells (ae p1 ml.length c1) (ae none 0 0) (ae none 0 0)),ah .u16 x]) ?_ (JB b cZ _ _ _ _ _ _ _ _ _ x w1) ?_
    ·go_simp
    ·rintro e w2 ⟨v,pl,rfl,h1,h2,hb⟩;exact⟨_,rfl,⟨pl,h1,Lr h1 h2 cZ.ek.2⟩,bI hb⟩
   ·have d3:ev (aB 25)=_:=hd.1 rfl;clear hd;have hw:IntKind.i64.wrap (dn:Int)=(dn:Int):=by rw[IntKind.wrap_i64];omega
    refine yv ?_ rfl;go_simp
   ·have d2:∃pl,fp b pl∧Reads w1 (ev (aB 24)) pl.length (pl.map (aM ag)):=hd.1 rfl;clear hd;refine Lag.Yields.value (v:=ev (aB 24)) (w':=w1) rfl ⟨d2,bI (aw _ _)⟩
  intro a W hR;have ho:=hR.s;obtain⟨pl,hpl,mC⟩:=hR.val 6 (by decide);obtain⟨v7,e7⟩:∃v,a.eval (aB 7)=v:=⟨_,rfl⟩
  replace mC:Reads W v7 pl.length (pl.map (aM ag)):=e7▸mC;replace hold:=hold.trans ho;replace K3:=cA K3 ho;replace hF:=((hR.fr hF (by kernel_rfl)).cons (t:=7) e7).cons (t:=8) (hR.val 7 (by decide));clear hR ho e7;have hwv:=hv.old hold;have hne:=rH cZ LX ([]:List Int);obtain⟨K,hK⟩:∃K,jQ (qB (b.dep (n:Int)) (bn (b.dep (n:Int)) ml [] []) (bK pl)) (bn (b.dep (n:Int)) ml [] []).length=K:=⟨_,rfl⟩
  have Rw:=deep_law cZ LX [] (bK pl) n sw;rw[hK] at Rw
  have HGd:∀m:Nat,m<100→∀w9,Old W w9→bp aq 44 #[aQ ((b.dep (m:Int)).cells (ae p1 ml.length c1) (ae none 0 0) (ae none 0 0)),v7] w9 fun e w'=>e=aG (bM #[ah ag (jQ (qB (b.dep (m:Int)) (bn (b.dep (m:Int)) ml [] []) (bK pl)) (bn (b.dep (m:Int)) ml [] []).length),ah ag 0])∧aC w9.heap.size w9 w':=fun m hm9 w9 h9=>
   IX (b.dep (m:Int)) _ _ _ ml [] [] w9 (hL.old (hold.trans h9)) (Nz (BB.Mm cZ (by omega) (by omega)) LX (hwv.old h9)) (rH (BB.Mm cZ (by omega) (by omega)) LX []) pl (hpl.dep _) v7 (mC.old h9)
  have HG:Hid (∀w9,Old W w9→bp aq 44 #[aQ ((b.dep (n:Int)).cells (ae p1 ml.length c1) (ae none 0 0) (ae none 0 0)),v7] w9 fun e w'=>e=aG (bM #[ah ag K,ah ag 0])∧aC w9.heap.size w9 w'):=ai fun w9 h9=>by
   have h:=HGd n sw w9 h9;rwa [hK] at h
  have Tg:∀w9,Old W w9→_:=fun w9 h9=>EJ b (ae p1 ml.length c1) (ae none 0 0) (ae none 0 0) ml [] [] w9 (hL.old (hold.trans h9)) (Nz cZ LX (hwv.old h9)) hne pl hpl v7 (mC.old h9);clear hne hwv;cases I2:jn b (bn b ml [] []) (bK pl) 100
  case none=>
   rw[I2] at Rw Tg;have HD:Hid (∀w9,Old W w9→bp aq 25 #[aQ (b.cells (ae p1 ml.length c1) (ae none 0 0) (ae none 0 0)),v7] w9 fun e w'=>e=aG (bM #[ah ag 0,aA false,ah ag 0])∧aC w9.heap.size w9 w'):=ai Tg;clear Tg;clear HGd
   refine iA quiet bm [pV (aQ (b.cells (ae p1 ml.length c1) (ae none 0 0) (ae none 0 0))),pV (v7),pV (bM #[ah ag 0,aA false,ah ag 0]),pV (bM #[ah ag 0,aA false,ah ag 0]),pV (ah ag 0),pV (aA false),pV (ah ag 0),pV (ah ag 0),pV (aA false),pV (ah ag 0)]
    _ (by kernel_rfl) hF.size hF.base ?_ ?_ ?_
   ·exact⟨sV,sV,sV,sV,sV,sV,sV,sV,sV,sV,trivial⟩
   ·refine⟨?_,?_,?_,?_,?_,?_,?_,?_,?_,?_,trivial⟩<;>rintro ev w1 hS hc hg hf ⟨-,b7,-,b3,-,-,-,-⟩ hd
    all_goals try
     try have d0:ev (aB _)=_:=hd.1 rfl
     clear hd;refine yw rfl ?_ rfl;go_simp;done
    ·clear hd;have jG:=cA K3 hS;exact k8 28 rfl b3 jG aT rfl (by kernel_rfl) (rfl)
    ·have d0:ev (aB 29)=_:=hd.1 rfl;have d1:ev (aB 30)=_:=hd.2.1 rfl;clear hd;refine yc (HD.out w1 hS) ?_ (fun _=>rfl);go_simp
   intro a W hR;have ho:=hR.s;replace hold:=hold.trans ho;replace K3:=cA K3 ho;replace mC:=mC.old ho;replace HD:=ai fun w9 (h9:Old W w9)=>HD.out w9 (ho.trans h9);replace HG:=ai fun w9 (h9:Old W w9)=>HG.out w9 (ho.trans h9);replace hF:=(((hR.fr hF (by kernel_rfl)).cons (t:=9) (hR.val 7 (by decide))).cons (t:=10) (hR.val 8 (by decide))).cons (t:=11) (hR.val 9 (by decide));clear hR ho
   refine iA quiet bm [pV (aQ (b.cells (ae p1 ml.length c1) (ae none 0 0) (ae none 0 0))),pV (ah ag (n:Int)),pV (aQ ((b.dep (n:Int)).cells (ae p1 ml.length c1) (ae none 0 0) (ae none 0 0))),pV (v7),pV (bM #[ah ag K,ah ag 0]),pV (bM #[ah ag K,ah ag 0]),pV (ah ag K),pV (ah ag 0),pV (ah ag K),pV (ah ag 0)]
    _ (by kernel_rfl) hF.size hF.base ?_ ?_ ?_
   ·exact⟨sV,sV,sV,sV,sV,sV,sV,sV,sV,sV,trivial⟩
   ·refine⟨?_,?_,?_,?_,?_,?_,?_,?_,?_,?_,trivial⟩<;>rintro ev w1 hS hc hg hf ⟨-,-,-,b8,b7,-,b3,-,-,-,-⟩ hd
    all_goals try
     try have d0:ev (aB _)=_:=hd.1 rfl
     clear hd;refine yw rfl ?_ rfl;go_simp;done
    ·clear hd;have jG:=cA K3 hS;exact k8 28 rfl b3 jG aT rfl (by kernel_rfl) (rfl)
    ·have d0:ev (aB 36)=_:=hd.1 rfl;have d1:ev (aB 37)=_:=hd.2.1 rfl;clear hd;refine yc (args:=#[aQ (b.cells (ae p1 ml.length c1) (ae none 0 0) (ae none 0 0)),ah ag (n:Int)]) (vE b _ _ _ _ _ _ _ _ _ _ w1) ?_ (fun _=>rfl);go_simp
    ·have d2:ev (aB 38)=_:=hd.1 rfl;have d3:ev (aB 39)=_:=hd.2.1 rfl;clear hd;refine yc (HG.out w1 hS) ?_ (fun _=>rfl);go_simp
   intro a W hR;have ho:=hR.s;replace hold:=hold.trans ho;replace K3:=cA K3 ho;replace mC:=mC.old ho;replace HD:=ai fun w9 (h9:Old W w9)=>HD.out w9 (ho.trans h9);replace HG:=ai fun w9 (h9:Old W w9)=>HG.out w9 (ho.trans h9);replace hF:=((hR.fr hF (by kernel_rfl)).cons (t:=12) (hR.val 8 (by decide))).cons (t:=13) (hR.val 9 (by decide));clear hR ho;refine jD quiet ?_
   refine iA quiet (dV bm) [pV (ah ag 0),pV (aA false),pV (aA false),pV (ah ag 0),pV (aA false),pV (aA false),pV (aA false),pV (ah ag 0),pV (aA true),pV (aA false),pV (aA false),pV (aA false),pV (ah ag K),pV (aA (K==1)),pV (aA (K==1)),pC (K==1) (aA false),pC (K==1) (aA true),pG (K==1) (aA true),pC ((K==1)&&(!true)) (ah ag (n:Int)),pC ((K==1)&&(!true)) (ah ag 0),pC ((K==1)&&(!true)) (aA (decide ((n:Int)>0))),pC (K==1) (aA true),pV (aA ((K==1)&&true)),pV (aA ((K==1)&&true))]
    _ (by kernel_rfl) hF.size hF.base ?_ ?_ ?_
   ·exact⟨sV,sV,sV,sV,sV,sV,sV,sV,sV,sV,sV,sV,sV,sV,sV,sC,sC,sG,sC,sC,sC,sC,sV,sV,trivial⟩
   ·refine⟨?_,?_,?_,?_,?_,?_,?_,?_,?_,?_,?_,?_,?_,?_,?_,?_,?_,?_,?_,?_,?_,?_,?_,?_,trivial⟩<;>rintro ev w1 hS hc hg hf ⟨b13,b12,b11,Sw,b9,b8,-,-,-,-,-,-,-⟩ hd
    all_goals try
     try have d0:ev (aB _)=_:=hd.1 rfl
     try have d1:ev (aB _)=_:=hd.2.1 rfl
     clear hd;refine yw rfl ?_ rfl;go_simp;done
    all_goals try
     try have d0:ev (aB _)=_:=hd.1 rfl
     try have c0:_→ev (aB _)=_:=hd.1 rfl
     try have d1:ev (aB _)=_:=hd.2.1 rfl
     clear hd
     first|refine gC d0 jx fun hA=>?_|refine gC d1 jx fun hA=>?_
     try replace c0:=c0 hA
     refine yw rfl ?_ (fun _=>rfl);go_simp;done
    ·have d2:ev (aB 45)=_:=hd.1 rfl;clear hd;refine gL d2 ?_;refine yv ?_ rfl;go_simp
    ·have d3:ev (aB 46)=_:=hd.1 rfl;have d2:ev (aB 45)=_:=hd.2.1 rfl;clear hd;refine gL d2 ?_;refine yv ?_ rfl;go_simp
    ·have d6:ev (aB 49)=_:=hd.1 rfl;clear hd;refine gL d6 ?_;refine yv ?_ rfl;go_simp
    ·have d7:ev (aB 50)=_:=hd.1 rfl;have d6:ev (aB 49)=_:=hd.2.1 rfl;clear hd;refine gL d6 ?_;refine yc (args:=#[ah ag 0,ah ag 0,ah ag 99]) (BP _ _ _ w1 (by decide)) ?_ (fun _=>rfl);go_simp
    ·have d8:ev (aB 51)=_:=hd.1 rfl;have d6:ev (aB 49)=_:=hd.2.1 rfl;clear hd;refine gL d6 ?_;refine yv ?_ rfl;go_simp
    ·have d11:ev (aB 54)=_:=hd.1 rfl;clear hd;refine gL d11 ?_;refine yv ?_ rfl;go_simp
    ·have d12:ev (aB 55)=_:=hd.1 rfl;have d11:ev (aB 54)=_:=hd.2.1 rfl;clear hd;refine gL d11 ?_;refine yv ?_ rfl;go_simp
    ·have d13:ev (aB 56)=_:=hd.1 rfl;have d11:ev (aB 54)=_:=hd.2.1 rfl;clear hd;refine gL d11 ?_;refine yv ?_ rfl;go_simp
    ·have d16:_→ev (aB 59)=_:=hd.1 rfl;have d14:ev (aB 57)=_:=hd.2.1 rfl;clear hd;refine gG d14 jx fun hA=>?_;have y16:=d16 hA;refine yv ?_ (CN hA);go_simp
    ·have d17:ev (aB 60)=_:=hd.1 rfl;clear hd;refine gC d17 Gj fun hA=>?_;refine yv ?_ (fun _=>rfl);go_simp
    ·have d17:ev (aB 60)=_:=hd.1 rfl;clear hd;refine gC d17 Gj fun hA=>?_;refine yv ?_ (fun _=>rfl);go_simp
    ·have d18:_→ev (aB 61)=_:=hd.1 rfl;have d19:_→ev (aB 62)=_:=hd.2.1 rfl;have d17:ev (aB 60)=_:=hd.2.2.1 rfl;clear hd;refine gC d17 Gj fun hA=>?_;have YW:=d18 hA;have y19:=d19 hA;refine yv ?_ (fun _=>rfl);go_simp
    ·have d17:ev (aB 60)=_:=hd.1 rfl;have d14:ev (aB 57)=_:=hd.2.2.1 rfl;clear hd;refine gC d14 jx fun hA=>?_;have YX:=(d17.trans (CN hA).symm)
     clear d17;refine yv ?_ (fun _=>rfl);go_simp
    ·have d14:ev (aB 57)=_:=hd.1 rfl;have d21:_→ev (aB 64)=_:=hd.2.1 rfl;have d11:ev (aB 54)=_:=hd.2.2.1 rfl;clear hd;refine gL d11 ?_;exact yA rfl hc d14 (fun hq=>d21 (by simp[hq])) (rfl)
   intro a W hR;have ho:=hR.s;replace hold:=hold.trans ho;replace K3:=cA K3 ho;replace mC:=mC.old ho;replace HD:=ai fun w9 (h9:Old W w9)=>HD.out w9 (ho.trans h9);replace HG:=ai fun w9 (h9:Old W w9)=>HG.out w9 (ho.trans h9);replace hF:=(hR.fr hF (by kernel_rfl)).cons (t:=66) (hR.val 23 (by decide));clear hR ho;refine zN quiet (t:=((K==1)&&true)) (hF.g 0 rfl) (fun OZ=>?_) (fun OZ=>?_)
   ·skip
    replace hF:=hF.tl;exact absurd OZ (by simp;exact Rw)
   ·skip
    replace hF:=hF.tl;show nN aq Code.skip _ _ _;refine oF quiet (dV bm) fun τ0 δ0=>?_;have ho:=cY W τ0 δ0;replace hold:=hold.trans ho;replace K3:=cA K3 ho;replace mC:=mC.old ho;replace HD:=ai fun w9 (h9:Old (cX W τ0 δ0) w9)=>HD.out w9 (ho.trans h9);replace HG:=ai fun w9 (h9:Old (cX W τ0 δ0) w9)=>HG.out w9 (ho.trans h9);clear ho;generalize cX W τ0 δ0=W2 at *;clear W;rename ar=>W;show nN aq _ _ _ W;refine jD quiet ?_
    refine iA quiet (dV bm) [pV (aA false),pV (aA true)]
     _ (by kernel_rfl) hF.size hF.base ?_ ?_ ?_
    ·exact⟨sV,sV,trivial⟩
    ·refine⟨?_,?_,trivial⟩<;>rintro ev w1 hS hc hg hf ⟨-,-,-,Sw,-,-,-,-,-,-,-,-,-⟩ hd
     all_goals try
      try have d0:ev (aB _)=_:=hd.1 rfl
      clear hd;refine yw rfl ?_ rfl;go_simp;done
    intro a W hR;have ho:=hR.s;replace hold:=hold.trans ho;replace K3:=cA K3 ho;replace mC:=mC.old ho;replace HD:=ai fun w9 (h9:Old W w9)=>HD.out w9 (ho.trans h9);replace HG:=ai fun w9 (h9:Old W w9)=>HG.out w9 (ho.trans h9);replace hF:=(hR.fr hF (by kernel_rfl)).cons (t:=68) (hR.val 1 (by decide));clear hR ho;refine m8 quiet (t:=true) (hF.g 0 rfl) ?_;show nN aq _ _ _ _;replace hF:=hF.tl;replace hF:=hF.del 6;simp only[sF,eQ,reduceIte] at hF
    refine Ni quiet (dV bm) (fun i=>i==3) [pV (ah ag 0),pV (aA true),pV (aA true),pV (aA true),pV (aA true),pV (aA true)]
     _ (by kernel_rfl) hF.size hF.base ?_ ?_ ?_
    ·exact⟨vV,vV,vV,vV,vV,vV,trivial⟩
    ·refine⟨?_,?_,?_,?_,?_,?_,trivial⟩<;>rintro ev w1 hS hc hg hf ⟨-,-,-,-,b9,-,-,-,-,-,-,-⟩ hd
     all_goals try
      try have d0:ev (aB _)=_:=hd.1 rfl
      try have d1:ev (aB _)=_:=hd.2.1 rfl
      clear hd;refine nS rfl (yw rfl ?_ rfl);go_simp;done
     ·have d2:ev (aB 71)=_:=hd.1 rfl;clear hd;refine gL d2 ?_;refine Cv rfl ?_;refine⟨19,#[],_,fun w9=>?_,tZ (hL.old (hold.trans hS)),fun v W' hv=>uY (mJ.all (by exact⟨fun _ _ _ _ h _=>h,fun _ _ _ _ h _=>h,fun _ _ _ _ h _=>h,fun _ _ _ _ h _=>h,fun _ _ _ _ h _=>h,fun _ _ _ _ h _=>h,trivial⟩)) hS hv.2 hv.1⟩;go_simp
    intro a W hR;have ho:=hR.s;replace hold:=hold.trans ho;replace K3:=cA K3 ho;replace mC:=mC.old ho;replace HD:=ai fun w9 (h9:Old W w9)=>HD.out w9 (ho.trans h9);replace HG:=ai fun w9 (h9:Old W w9)=>HG.out w9 (ho.trans h9);replace hF:=(hR.fr hF (by kernel_rfl)).cons (t:=6) (hR.val 5 (by decide));clear hR ho;exact mg quiet (dV bm) fun τ d=>wp_ret ⟨hF.defers,_,cD rfl _ _ _,(hF.g 0 rfl),np τ d hold⟩
  case some d=>
   rw[I2] at Rw Tg;have HD:Hid (∀w9,Old W w9→bp aq 25 #[aQ (b.cells (ae p1 ml.length c1) (ae none 0 0) (ae none 0 0)),v7] w9 fun e w'=>e=aG (bM #[ah ag (d:Int),aA true,ah ag 0])∧aC w9.heap.size w9 w'):=ai Tg;clear Tg;obtain⟨hd1,hd2,hd3⟩:=Rw
   have HH:Hid (∀w9,Old W w9→bp aq 44 #[aQ ((b.dep (d:Int)).cells (ae p1 ml.length c1) (ae none 0 0) (ae none 0 0)),v7] w9 fun e w'=>e=aG (bM #[ah ag 1,ah ag 0])∧aC w9.heap.size w9 w'):=ai fun w9 h9=>by
    have h:=HGd d hd1 w9 h9;rwa [hd2] at h
   clear HGd
   refine iA quiet bm [pV (aQ (b.cells (ae p1 ml.length c1) (ae none 0 0) (ae none 0 0))),pV (v7),pV (bM #[ah ag (d:Int),aA true,ah ag 0]),pV (bM #[ah ag (d:Int),aA true,ah ag 0]),pV (ah ag (d:Int)),pV (aA true),pV (ah ag 0),pV (ah ag (d:Int)),pV (aA true),pV (ah ag 0)]
    _ (by kernel_rfl) hF.size hF.base ?_ ?_ ?_
   ·exact⟨sV,sV,sV,sV,sV,sV,sV,sV,sV,sV,trivial⟩
   ·refine⟨?_,?_,?_,?_,?_,?_,?_,?_,?_,?_,trivial⟩<;>rintro ev w1 hS hc hg hf ⟨-,b7,-,b3,-,-,-,-⟩ hd
    all_goals try
     try have d0:ev (aB _)=_:=hd.1 rfl
     clear hd;refine yw rfl ?_ rfl;go_simp;done
    ·clear hd;have jG:=cA K3 hS;exact k8 28 rfl b3 jG aT rfl (by kernel_rfl) (rfl)
    ·have d0:ev (aB 29)=_:=hd.1 rfl;have d1:ev (aB 30)=_:=hd.2.1 rfl;clear hd;refine yc (HD.out w1 hS) ?_ (fun _=>rfl);go_simp
   intro a W hR;have ho:=hR.s;replace hold:=hold.trans ho;replace K3:=cA K3 ho;replace mC:=mC.old ho;replace HD:=ai fun w9 (h9:Old W w9)=>HD.out w9 (ho.trans h9);replace HG:=ai fun w9 (h9:Old W w9)=>HG.out w9 (ho.trans h9);replace HH:=ai fun w9 (h9:Old W w9)=>HH.out w9 (ho.trans h9);replace hF:=(((hR.fr hF (by kernel_rfl)).cons (t:=9) (hR.val 7 (by decide))).cons (t:=10) (hR.val 8 (by decide))).cons (t:=11) (hR.val 9 (by decide));clear hR ho
   refine iA quiet bm [pV (aQ (b.cells (ae p1 ml.length c1) (ae none 0 0) (ae none 0 0))),pV (ah ag (n:Int)),pV (aQ ((b.dep (n:Int)).cells (ae p1 ml.length c1) (ae none 0 0) (ae none 0 0))),pV (v7),pV (bM #[ah ag K,ah ag 0]),pV (bM #[ah ag K,ah ag 0]),pV (ah ag K),pV (ah ag 0),pV (ah ag K),pV (ah ag 0)]
    _ (by kernel_rfl) hF.size hF.base ?_ ?_ ?_
   ·exact⟨sV,sV,sV,sV,sV,sV,sV,sV,sV,sV,trivial⟩
   ·refine⟨?_,?_,?_,?_,?_,?_,?_,?_,?_,?_,trivial⟩<;>rintro ev w1 hS hc hg hf ⟨-,-,-,b8,b7,-,b3,-,-,-,-⟩ hd
    all_goals try
     try have d0:ev (aB _)=_:=hd.1 rfl
     clear hd;refine yw rfl ?_ rfl;go_simp;done
    ·clear hd;have jG:=cA K3 hS;exact k8 28 rfl b3 jG aT rfl (by kernel_rfl) (rfl)
    ·have d0:ev (aB 36)=_:=hd.1 rfl;have d1:ev (aB 37)=_:=hd.2.1 rfl;clear hd;refine yc (args:=#[aQ (b.cells (ae p1 ml.length c1) (ae none 0 0) (ae none 0 0)),ah ag (n:Int)]) (vE b _ _ _ _ _ _ _ _ _ _ w1) ?_ (fun _=>rfl);go_simp
    ·have d2:ev (aB 38)=_:=hd.1 rfl;have d3:ev (aB 39)=_:=hd.2.1 rfl;clear hd;refine yc (HG.out w1 hS) ?_ (fun _=>rfl);go_simp
   intro a W hR;have ho:=hR.s;replace hold:=hold.trans ho;replace K3:=cA K3 ho;replace mC:=mC.old ho;replace HD:=ai fun w9 (h9:Old W w9)=>HD.out w9 (ho.trans h9);replace HG:=ai fun w9 (h9:Old W w9)=>HG.out w9 (ho.trans h9);replace HH:=ai fun w9 (h9:Old W w9)=>HH.out w9 (ho.trans h9);replace hF:=((hR.fr hF (by kernel_rfl)).cons (t:=12) (hR.val 8 (by decide))).cons (t:=13) (hR.val 9 (by decide));clear hR ho;refine jD quiet ?_
   refine iA quiet (dV bm) [pV (ah ag 0),pV (aA false),pV (aA false),pV (ah ag 0),pV (aA false),pV (aA false),pV (aA false),pV (ah ag (d:Int)),pV (aA true),pV (aA false),pV (aA false),pV (aA false),pV (ah ag K),pV (aA (K==1)),pV (aA (K==1)),pC (K==1) (aA true),pC (K==1) (aA false),pG (K==1) (aA false),pC ((K==1)&&(!false)) (ah ag (n:Int)),pC ((K==1)&&(!false)) (ah ag (d:Int)),pC ((K==1)&&(!false)) (aA (decide ((n:Int)>(d:Int)))),pC (K==1) (aA (decide ((n:Int)>(d:Int)))),pV (aA ((K==1)&&(decide ((n:Int)>(d:Int))))),pV (aA ((K==1)&&(decide ((n:Int)>(d:Int)))))]
    _ (by kernel_rfl) hF.size hF.base ?_ ?_ ?_
   ·exact⟨sV,sV,sV,sV,sV,sV,sV,sV,sV,sV,sV,sV,sV,sV,sV,sC,sC,sG,sC,sC,sC,sC,sV,sV,trivial⟩
   ·refine⟨?_,?_,?_,?_,?_,?_,?_,?_,?_,?_,?_,?_,?_,?_,?_,?_,?_,?_,?_,?_,?_,?_,?_,?_,trivial⟩<;>rintro ev w1 hS hc hg hf ⟨b13,b12,b11,Sw,b9,b8,-,-,-,-,-,-,-⟩ hd
    all_goals try
     try have d0:ev (aB _)=_:=hd.1 rfl
     try have d1:ev (aB _)=_:=hd.2.1 rfl
     clear hd;refine yw rfl ?_ rfl;go_simp;done
    all_goals try
     try have d0:ev (aB _)=_:=hd.1 rfl
     try have c0:_→ev (aB _)=_:=hd.1 rfl
     try have d1:ev (aB _)=_:=hd.2.1 rfl
     clear hd
     first|refine gC d0 jx fun hA=>?_|refine gC d1 jx fun hA=>?_
     try replace c0:=c0 hA
     refine yw rfl ?_ (fun _=>rfl);go_simp;done
    ·have d2:ev (aB 45)=_:=hd.1 rfl;clear hd;refine gL d2 ?_;refine yv ?_ rfl;go_simp
    ·have d3:ev (aB 46)=_:=hd.1 rfl;have d2:ev (aB 45)=_:=hd.2.1 rfl;clear hd;refine gL d2 ?_;refine yv ?_ rfl;go_simp
    ·have d6:ev (aB 49)=_:=hd.1 rfl;clear hd;refine gL d6 ?_;refine yv ?_ rfl;go_simp
    ·have d7:ev (aB 50)=_:=hd.1 rfl;have d6:ev (aB 49)=_:=hd.2.1 rfl;clear hd;refine gL d6 ?_;refine yc (args:=#[ah ag (d:Int),ah ag 0,ah ag 99]) (BP _ _ _ w1 (by unfold aL;simp;omega)) ?_ (fun _=>rfl);go_simp
    ·have d8:ev (aB 51)=_:=hd.1 rfl;have d6:ev (aB 49)=_:=hd.2.1 rfl;clear hd;refine gL d6 ?_;refine yv ?_ rfl;go_simp
    ·have d11:ev (aB 54)=_:=hd.1 rfl;clear hd;refine gL d11 ?_;refine yv ?_ rfl;go_simp
    ·have d12:ev (aB 55)=_:=hd.1 rfl;have d11:ev (aB 54)=_:=hd.2.1 rfl;clear hd;refine gL d11 ?_;refine yv ?_ rfl;go_simp
    ·have d13:ev (aB 56)=_:=hd.1 rfl;have d11:ev (aB 54)=_:=hd.2.1 rfl;clear hd;refine gL d11 ?_;refine yv ?_ rfl;go_simp
    ·have d16:_→ev (aB 59)=_:=hd.1 rfl;have d14:ev (aB 57)=_:=hd.2.1 rfl;clear hd;refine gG d14 jx fun hA=>?_;have y16:=d16 hA;refine yv ?_ (CN hA);go_simp
    ·have d17:ev (aB 60)=_:=hd.1 rfl;clear hd;refine gC d17 Gj fun hA=>?_;refine yv ?_ (fun _=>rfl);go_simp
    ·have d17:ev (aB 60)=_:=hd.1 rfl;clear hd;refine gC d17 Gj fun hA=>?_;refine yv ?_ (fun _=>rfl);go_simp
    ·have d18:_→ev (aB 61)=_:=hd.1 rfl;have d19:_→ev (aB 62)=_:=hd.2.1 rfl;have d17:ev (aB 60)=_:=hd.2.2.1 rfl;clear hd;refine gC d17 Gj fun hA=>?_;have YW:=d18 hA;have y19:=d19 hA;refine yv ?_ (fun _=>rfl);go_simp
    ·have d17:ev (aB 60)=_:=hd.1 rfl;have d20:_→ev (aB 63)=_:=hd.2.1 rfl;have d14:ev (aB 57)=_:=hd.2.2.1 rfl;clear hd;refine gC d14 jx fun hA=>?_;have YX:=(d17.trans (CN hA).symm)
     clear d17;have y20:=d20 (by revert hA;simp;try (intros;simp_all));refine yv ?_ (fun _=>rfl);go_simp
    ·have d14:ev (aB 57)=_:=hd.1 rfl;have d21:_→ev (aB 64)=_:=hd.2.1 rfl;have d11:ev (aB 54)=_:=hd.2.2.1 rfl;clear hd;refine gL d11 ?_;exact yA rfl hc d14 (fun hq=>d21 (by simp[hq])) (rfl)
   intro a W hR;have ho:=hR.s;replace hold:=hold.trans ho;replace K3:=cA K3 ho;replace mC:=mC.old ho;replace HD:=ai fun w9 (h9:Old W w9)=>HD.out w9 (ho.trans h9);replace HG:=ai fun w9 (h9:Old W w9)=>HG.out w9 (ho.trans h9);replace HH:=ai fun w9 (h9:Old W w9)=>HH.out w9 (ho.trans h9);replace hF:=(hR.fr hF (by kernel_rfl)).cons (t:=66) (hR.val 23 (by decide));clear hR ho;refine zN quiet (t:=((K==1)&&(decide ((n:Int)>(d:Int))))) (hF.g 0 rfl) (fun OZ=>?_) (fun OZ=>?_)
   ·skip
    replace hF:=hF.tl;exact absurd (hd3 (by revert OZ;simp;try omega)) (by revert OZ;simp;try omega)
   ·skip
    replace hF:=hF.tl;show nN aq Code.skip _ _ _;refine oF quiet (dV bm) fun τ0 δ0=>?_;have ho:=cY W τ0 δ0;replace hold:=hold.trans ho;replace K3:=cA K3 ho;replace mC:=mC.old ho;replace HD:=ai fun w9 (h9:Old (cX W τ0 δ0) w9)=>HD.out w9 (ho.trans h9);replace HG:=ai fun w9 (h9:Old (cX W τ0 δ0) w9)=>HG.out w9 (ho.trans h9);replace HH:=ai fun w9 (h9:Old (cX W τ0 δ0) w9)=>HH.out w9 (ho.trans h9);clear ho;generalize cX W τ0 δ0=W2 at *;clear W;rename ar=>W;show nN aq _ _ _ W;refine jD quiet ?_
    refine iA quiet (dV bm) [pV (aA true),pV (aA false)]
     _ (by kernel_rfl) hF.size hF.base ?_ ?_ ?_
    ·exact⟨sV,sV,trivial⟩
    ·refine⟨?_,?_,trivial⟩<;>rintro ev w1 hS hc hg hf ⟨-,-,-,Sw,-,-,-,-,-,-,-,-,-⟩ hd
     all_goals try
      try have d0:ev (aB _)=_:=hd.1 rfl
      clear hd;refine yw rfl ?_ rfl;go_simp;done
    intro a W hR;have ho:=hR.s;replace hold:=hold.trans ho;replace K3:=cA K3 ho;replace mC:=mC.old ho;replace HD:=ai fun w9 (h9:Old W w9)=>HD.out w9 (ho.trans h9);replace HG:=ai fun w9 (h9:Old W w9)=>HG.out w9 (ho.trans h9);replace HH:=ai fun w9 (h9:Old W w9)=>HH.out w9 (ho.trans h9);replace hF:=(hR.fr hF (by kernel_rfl)).cons (t:=68) (hR.val 1 (by decide));clear hR ho;refine m8 quiet (t:=false) (hF.g 0 rfl) ?_;show nN aq _ _ _ _;replace hF:=hF.tl;show nN aq Code.skip _ _ _;refine oF quiet (dV bm) fun τ0 δ0=>?_;have ho:=cY W τ0 δ0;replace hold:=hold.trans ho;replace K3:=cA K3 ho;replace mC:=mC.old ho;replace HD:=ai fun w9 (h9:Old (cX W τ0 δ0) w9)=>HD.out w9 (ho.trans h9);replace HG:=ai fun w9 (h9:Old (cX W τ0 δ0) w9)=>HG.out w9 (ho.trans h9);replace HH:=ai fun w9 (h9:Old (cX W τ0 δ0) w9)=>HH.out w9 (ho.trans h9);clear ho;generalize cX W τ0 δ0=W2 at *;clear W;rename ar=>W;show nN aq _ _ _ W
    refine iA quiet bm [pV (aQ (b.cells (ae p1 ml.length c1) (ae none 0 0) (ae none 0 0))),pV (ah ag (d:Int)),pV (aQ ((b.dep (d:Int)).cells (ae p1 ml.length c1) (ae none 0 0) (ae none 0 0))),pV (v7),pV (bM #[ah ag 1,ah ag 0]),pV (bM #[ah ag 1,ah ag 0]),pV (ah ag 1),pV (ah ag 0),pV (ah ag 1),pV (ah ag 0)]
     _ (by kernel_rfl) hF.size hF.base ?_ ?_ ?_
    ·exact⟨sV,sV,sV,sV,sV,sV,sV,sV,sV,sV,trivial⟩
    ·refine⟨?_,?_,?_,?_,?_,?_,?_,?_,?_,?_,trivial⟩<;>rintro ev w1 hS hc hg hf ⟨-,-,-,-,b9,-,b7,-,b3,-,-,-,-⟩ hd
     all_goals try
      try have d0:ev (aB _)=_:=hd.1 rfl
      clear hd;refine yw rfl ?_ rfl;go_simp;done
     ·clear hd;have jG:=cA K3 hS;exact k8 28 rfl b3 jG aT rfl (by kernel_rfl) (rfl)
     ·have d0:ev (aB 75)=_:=hd.1 rfl;have d1:ev (aB 76)=_:=hd.2.1 rfl;clear hd;refine yc (args:=#[aQ (b.cells (ae p1 ml.length c1) (ae none 0 0) (ae none 0 0)),ah ag (d:Int)]) (vE b _ _ _ _ _ _ _ _ _ _ w1) ?_ (fun _=>rfl);go_simp
     ·have d2:ev (aB 77)=_:=hd.1 rfl;have d3:ev (aB 78)=_:=hd.2.1 rfl;clear hd;refine yc (HH.out w1 hS) ?_ (fun _=>rfl);go_simp
    intro a W hR;have ho:=hR.s;replace hold:=hold.trans ho;replace K3:=cA K3 ho;replace mC:=mC.old ho;replace HD:=ai fun w9 (h9:Old W w9)=>HD.out w9 (ho.trans h9);replace HG:=ai fun w9 (h9:Old W w9)=>HG.out w9 (ho.trans h9);replace HH:=ai fun w9 (h9:Old W w9)=>HH.out w9 (ho.trans h9);replace hF:=((hR.fr hF (by kernel_rfl)).cons (t:=14) (hR.val 8 (by decide))).cons (t:=15) (hR.val 9 (by decide));clear hR ho;replace hF:=hF.del 6;simp only[sF,eQ,reduceIte] at hF
    refine Ni quiet bm (fun i=>i==7) [pV (ah ag 0),pV (aA true),pV (aA true),pV (ah ag 1),pV (aA true),pV (aA true),pV (aA true),pV (aA true),pV (aA true),pV (aA true)]
     _ (by kernel_rfl) hF.size hF.base ?_ ?_ ?_
    ·exact⟨vV,vV,vV,vV,vV,vV,vV,vV,vV,vV,trivial⟩
    ·refine⟨?_,?_,?_,?_,?_,?_,?_,?_,?_,?_,trivial⟩<;>rintro ev w1 hS hc hg hf ⟨b15,b14,-,-,-,-,-,-,-,-,-,-,-,-⟩ hd
     all_goals try
      try have d0:ev (aB _)=_:=hd.1 rfl
      try have d1:ev (aB _)=_:=hd.2.1 rfl
      clear hd;refine nS rfl (yw rfl ?_ rfl);go_simp;done
     ·have d2:ev (aB 84)=_:=hd.1 rfl;clear hd;refine gL d2 ?_;refine nS rfl ?_;refine yv ?_ rfl;go_simp
     ·have d3:ev (aB 85)=_:=hd.1 rfl;have d2:ev (aB 84)=_:=hd.2.1 rfl;clear hd;refine gL d2 ?_;refine nS rfl ?_;refine yv ?_ rfl;go_simp
     ·have d6:ev (aB 88)=_:=hd.1 rfl;clear hd;refine gL d6 ?_;refine Cv rfl ?_;refine⟨19,#[],_,fun w9=>?_,tZ (hL.old (hold.trans hS)),fun v W' hv=>uY (mJ.all (by exact⟨fun _ _ _ _ h _=>h,fun _ _ _ _ h _=>h,fun _ _ _ _ h _=>h,fun _ _ _ _ h _=>h,fun _ _ _ _ h _=>h,fun _ _ _ _ h _=>h,fun _ _ _ _ h _=>h,fun _ _ _ _ h _=>h,fun _ _ _ _ h _=>h,fun _ _ _ _ h _=>h,trivial⟩)) hS hv.2 hv.1⟩;go_simp
    intro a W hR;have ho:=hR.s;replace hold:=hold.trans ho;replace K3:=cA K3 ho;replace mC:=mC.old ho;replace HD:=ai fun w9 (h9:Old W w9)=>HD.out w9 (ho.trans h9);replace HG:=ai fun w9 (h9:Old W w9)=>HG.out w9 (ho.trans h9);replace HH:=ai fun w9 (h9:Old W w9)=>HH.out w9 (ho.trans h9);replace hF:=(hR.fr hF (by kernel_rfl)).cons (t:=6) (hR.val 9 (by decide));clear hR ho;exact mg quiet bm fun τ d=>wp_ret ⟨hF.defers,_,cD rfl _ _ _,(hF.g 0 rfl),np τ d hold⟩
theorem Sj(b:BB)(p1 p2 p3:Option Addr)(n1 c1 n2 c2 n3 c3:Nat)(hbig:20<n1)(x:Int)(dn:Nat){W0:ar}(hL:Laid W0):j6 aq 7 #[aQ (b.cells (ae p1 n1 c1) (ae p2 n2 c2) (ae p3 n3 c3)),ah .u16 x,ah .u8 (dn:Int)] W0 fun v W'=>v=aA true∧Old W0 W':=by
 refine kZ quiet Tryz.func7 rfl ?hR ?body
 case hR=>
  rintro v W' τ d ⟨h1,h2⟩;exact⟨h1,vQ h2⟩
 have hF:=l9 (args:=#[aQ (b.cells (ae p1 n1 c1) (ae p2 n2 c2) (ae p3 n3 c3)),ah .u16 x,ah .u8 (dn:Int)]) (n:=91) (by simp) [(2,ah .u8 (dn:Int)),(1,ah .u16 x),(0,aQ (b.cells (ae p1 n1 c1) (ae p2 n2 c2) (ae p3 n3 c3)))] ⟨oX rfl,oX rfl,oX rfl,trivial⟩;rw[show Tryz.f7.ntmps=91 from rfl];generalize (⟨#[aQ (b.cells (ae p1 n1 c1) (ae p2 n2 c2) (ae p3 n3 c3)),ah .u16 x,ah .u8 (dn:Int)]++aU (91-(#[aQ (b.cells (ae p1 n1 c1) (ae p2 n2 c2) (ae p3 n3 c3)),ah .u16 x,ah .u8 (dn:Int)]:Array ak).size) undef,[]⟩:Act)=a at *;have hold:Old W0 W0:=Old.refl W0;refine(fun h:∀W,Old W0 W→nN aq _ (F4 aq Tryz.f7 fun v W'=>v=aA true∧Old W0 W') a W=>h W0 (Old.refl W0)) ?_;clear hold;intro W hold
 refine iA quiet bm [fun v ds w9=>∃B,v=pv B 0∧w9.heap[B]?=some (au (b.cells (ae p1 n1 c1) (ae p2 n2 c2) (ae p3 n3 c3)) 28 (0,0))∧W.heap.size≤B,pV (aA false)]
  _ (by kernel_rfl) hF.size hF.base ?_ ?_ ?_
 ·refine⟨?_,sV,trivial⟩
  ·rintro v ds w1 w2 hS ⟨B,h1,h2,h3⟩ hb;exact⟨B,h1,aK h2 hb,h3⟩
 ·refine⟨?_,?_,trivial⟩<;>rintro ev w1 hS hc hg hf ⟨-,-,b0,-⟩ hd
  ·clear hd;refine Lag.Yields.value (v:=pv w1.heap.size 0) (w':=w1.alloc (au (b.cells (ae p1 n1 c1) (ae p2 n2 c2) (ae p3 n3 c3)) 28)) ?_ ⟨⟨_,rfl,ax _ _,hS.size⟩,bI ((aw _ _).alloc (ay _) _)⟩;go_simp
  ·clear hd;refine yv ?_ rfl;go_simp
 intro a W hR;have ho:=hR.s;obtain⟨B3,e3,K3,G3⟩:=hR.val 0 (by decide);replace G3:W0.heap.size≤B3:=bq hold.size G3;replace e3:a.eval (aB 3)=a8 (some ⟨B3,0,none⟩):=e3;replace hold:=hold.trans ho;replace hF:=((hR.fr hF (by kernel_rfl)).cons (t:=3) e3).cons (t:=6) (hR.val 1 (by decide));clear hR ho e3
 refine U7 quiet bm (fun w9=>Old W0 w9∧∃s9 k9,w9.heap[B3]?=some (au (b.cells (ae p1 n1 c1) s9 k9) 28 (0,0))) (fun _ _ h hb=>⟨h.1.trans (Old.of_below hb),h.2.imp fun _ h=>h.imp fun _ h=>aK h hb⟩) (fun τ d=>⟨hold.trans (cY W τ d),_,_,K3⟩) [pV (a8 (some ⟨B3,13,none⟩)),fun v ds w9=>∃k9,w9.heap[B3]?=some (au (b.cells (ae p1 n1 c1) (ae none 0 0) k9) 28 (0,0)),pV (a8 (some ⟨B3,14,none⟩)),fun v ds w9=>w9.heap[B3]?=some (au (b.cells (ae p1 n1 c1) (ae none 0 0) (ae none 0 0)) 28 (0,0))]
  _ (by kernel_rfl) hF.size hF.base ?_ ?_ ?_
 ·refine⟨sV,?_,sV,?_,trivial⟩
  ·rintro v ds w1 w2 hS ⟨k9,h1⟩ hb;exact⟨k9,aK h1 hb⟩
  ·intro v ds w1 w2 hS h1 hb;exact aK h1 hb
 ·refine⟨?_,?_,?_,?_,trivial⟩<;>rintro ev w1 hS hc hg hf ⟨-,b3,-,-,-,-⟩ hd
  all_goals try
   clear hd;refine yw rfl ?_ rfl;go_simp;done
  ·have d0:ev (aB 16)=_:=hd.1 rfl;clear hd;obtain⟨h0,s9,k9,hB⟩:=hS;have z:=aH hB 13 _ rfl;have zf:=cI hB 13;refine Lag.Yields.skip (w':=w1.setCell ⟨B3,13,none⟩ (ae none 0 0)) ?_ ⟨⟨k9,bT _ hB⟩,.inr ⟨⟨qY h0 G3,_,k9,bT _ hB⟩,?_⟩⟩
   ·go_simp
   ·intro j u ds hj hp
    match j,hp with
    |0,hp=>exact hp
    |1,_=>exact(hj rfl).elim
    |2,hp=>exact hp
    |3,hp=>exact bT (i:=13) (ae none 0 0) hp
    |j+4,_=>trivial
  ·have d2:ev (aB 17)=_:=hd.1 rfl;have d1:∃k9,w1.heap[B3]?=some (au (b.cells (ae p1 n1 c1) (ae none 0 0) k9) 28 (0,0)):=hd.2.1 rfl;clear hd;obtain⟨h0,-⟩:=hS;obtain⟨k9,hB⟩:=d1;have z:=aH hB 14 _ rfl;have zf:=cI hB 14;refine Lag.Yields.skip (w':=w1.setCell ⟨B3,14,none⟩ (ae none 0 0)) ?_ ⟨bT _ hB,.inr ⟨⟨qY h0 G3,_,_,bT _ hB⟩,?_⟩⟩
   ·go_simp
   ·intro j u ds hj hp
    match j,hp with
    |0,hp=>exact hp
    |1,_=>exact⟨_,bT _ hB⟩
    |2,hp=>exact hp
    |3,_=>exact(hj rfl).elim
    |j+4,_=>trivial
 intro a W hR;replace hold:Old W0 W:=hR.s.1;clear K3;have K3:W.heap[B3]?=some (au (b.cells (ae p1 n1 c1) (ae none 0 0) (ae none 0 0)) 28 (0,0)):=hR.val 3 (by decide);replace hF:=hR.fr hF (by kernel_rfl);clear hR;refine jD quiet ?_
 refine iA quiet (dV bm) [pV (aQ (b.cells (ae p1 n1 c1) (ae none 0 0) (ae none 0 0))),pV (aA false),pV (aA true)]
  _ (by kernel_rfl) hF.size hF.base ?_ ?_ ?_
 ·exact⟨sV,sV,sV,trivial⟩
 ·refine⟨?_,?_,?_,trivial⟩<;>rintro ev w1 hS hc hg hf ⟨-,b3,-,-,-,-⟩ hd
  ·clear hd;have jG:=cA K3 hS;exact k8 28 rfl b3 jG aT rfl (by kernel_rfl) (rfl)
  ·have d0:ev (aB 18)=_:=hd.1 rfl;clear hd;refine yc (Uw b p1 n1 c1 hbig w1) ?_ (fun _=>rfl);go_simp
  ·have d1:ev (aB 19)=_:=hd.1 rfl;clear hd;refine yv ?_ rfl;go_simp
 intro a W hR;have ho:=hR.s;replace hold:=hold.trans ho;replace K3:=cA K3 ho;replace hF:=(hR.fr hF (by kernel_rfl)).cons (t:=20) (hR.val 2 (by decide));clear hR ho;refine m8 quiet (t:=true) (hF.g 0 rfl) ?_;show nN aq _ _ _ _;replace hF:=hF.tl;replace hF:=hF.tl
 refine Ni quiet (dV bm) (fun i=>i==0) [pV (aA true),pV (aA true)]
  _ (by kernel_rfl) hF.size hF.base ?_ ?_ ?_
 ·exact⟨vV,vV,trivial⟩
 ·refine⟨?_,?_,trivial⟩<;>rintro ev w1 hS hc hg hf hb hd
  ·clear hd;refine Cv rfl ?_;refine⟨19,#[],_,fun w9=>?_,tZ (hL.old (hold.trans hS)),fun v W' hv=>uY (mJ.all (by exact⟨fun _ _ _ _ h _=>h,fun _ _ _ _ h _=>h,trivial⟩)) hS hv.2 hv.1⟩;go_simp
  ·have d0:ev (aB 21)=_:=hd.1 rfl;clear hd;refine nS rfl ?_;refine yv ?_ rfl;go_simp
 intro a W hR;have ho:=hR.s;replace hold:=hold.trans ho;replace K3:=cA K3 ho;replace hF:=(hR.fr hF (by kernel_rfl)).cons (t:=6) (hR.val 1 (by decide));clear hR ho;exact mg quiet (dV bm) fun τ d=>wp_ret ⟨hF.defers,_,cD rfl _ _ _,(hF.g 0 rfl),np τ d hold⟩
end Go.Proofs.YtffladgmkiimjaaGreatDoor
namespace Go.Proofs.YtffladgmkiimjaaGreatDoor
open Go Go.RowKit Go.Lag Go.ChangeShapes Go.Conc
theorem Nk{W:ar}{base:Nat}{t:bg}{k:IntKind}{v:ak}(ht:Tryz.prog.underlying t=some (.int k))(h:Value.okWide aq W .any base t v):∃x,v=.int k x∧k.has x:=by
 unfold Value.okWide at h;rw[ht] at h;exact Rb ht h
theorem qj{W Wk:ar}(hk:∀(b:Nat) (o:Obj),W.heap[b]?=some o→dY o=true→Wk.heap[b]?=some o){a:Addr}{v:ak}(h:W.cell? a=some v):Wk.cell? a=some v:=by
 unfold World.cell? at h ⊢;cases e:W.heap[a.block]? with
 |none=>rw[e] at h;simp at h
 |some o=>
  rw[e] at h;cases o<;>simp only[] at h<;>first|(rw[hk _ _ e rfl];exact h)|(cases h)
theorem Laid.kill{W Wk:ar}(h:Laid W)(hs:Wk.heap.size=W.heap.size)(hk:∀(b:Nat) (o:Obj),W.heap[b]?=some o→dY o=true→Wk.heap[b]?=some o):Laid Wk:=
 ⟨qj hk h.c0,qj hk h.c1,qj hk h.c2,qj hk h.c3,qj hk h.c4,by rw[hs];exact h.lt⟩
theorem Reads.kill{W Wk:ar}{v:ak}{n:Nat}{xs:List ak}(h:Reads W v n xs)(hs:Wk.heap.size=W.heap.size)(hk:∀(b:Nat) (o:Obj),W.heap[b]?=some o→dY o=true→Wk.heap[b]?=some o):Reads Wk v n xs:=by
 rcases h with h|⟨g,off,cap,h1,h2,h3,h4⟩
 ·exact .inl h
 ·exact .inr ⟨g,off,cap,h1,h2,by rw[hs];exact h3,fun j u hj=>qj hk (h4 j u hj)⟩
theorem SliceAt.lit{W:ar}{v:ak}(h:SliceAt W v):∃p n c,v=.slice p n c:=by
 rcases h with h|⟨g,off,n,c,h,-⟩
 ·exact⟨_,_,_,h⟩
 ·exact⟨_,_,_,h⟩
theorem Wv{H:Type}{enc:bg × ak→H}{W:ar}{b:BB}{m s k:ak}{d:DataW H}{p:List MemPlace}(h:DataW.Trod enc aq W 0 (fun _=>true) true 28 (.agg (b.cells m s k)) d p)(hm:SliceAt W m) :
  (∃p1 n1 c1,m=.slice p1 n1 c1∧20<n1)∨∃(p1:Option Addr) (c1:Nat) (ml:List Mn),m=.slice p1 ml.length c1∧Reads W m ml.length (gu ml):=by
 obtain⟨fuel,ht⟩:=h;obtain⟨⟨n,y,hf⟩,-,-⟩:=MC ht;rcases hm with rfl|⟨g,off,n1,c1,rfl,Fa,hg⟩
 ·exact .inr ⟨none,0,[],rfl,.inl ⟨rfl,rfl,rfl⟩⟩
 ·by_cases hb:20<n1
  ·exact .inl ⟨_,_,_,rfl,hb⟩
  ·obtain⟨ml,hl,hr⟩:=Oi Fa hg (by omega) (QX Fa hf);subst hl;exact .inr ⟨_,_,ml,rfl,hr⟩
theorem Kt(os:Os)(started:os.Started)(H:Type)(enc:bg × ak→H) :
  ReturnsInLeavingWide {} Tryz.checked os 7 .any (fun w args=>(Rows.bellDeepSpec.pre enc aq Tryz.f7 [] false w args∧laidMetH aq JQ w)∧sizedMet enc aq Tryz.f7 (OpenSpec.ofChange Rows.bellDeepSpec) false w args)
   (Rows.bellDeepSpec.post enc aq Tryz.f7 false true false false):=by
 refine JO (C:=Tryz.checked) (X:=fun w _=>laidMetH aq JQ w) (fun _ _ _ hh h=>h.of_heap hh) Tryz.own started Tryz.func7
  (ChangeSpec.witness_shaped (enc:=enc) (C:=Tryz.checked) (os:=os) (X:=fun w _=>laidMetH aq JQ w) false (World.doorLaid aq 400 os) #[.agg #[.int .i64 0,.int .i64 0,.int .i64 0,.int .i64 0,.int .i64 0,.int .i64 0,.int .i64 0,.int .i64 0,.int .i64 0,.int .i64 0,.int .i64 0,.int .i64 0,.slice none 0 0,.slice none 0 0,.slice none 0 0],.int .u16 0,.int .u8 0] 8 rfl (World.shaped_of_RefB (by kernel_rfl) (by kernel_rfl)) (by kernel_rfl) (by kernel_rfl) (by kernel_rfl) (Sg os _)) ?_
 intro W base args ds gs before Vc hW hL;have hval:∀(j:Nat) t v,Tryz.f7.params[j]?=some t→args[j]?=some v→Value.okWide aq W .any base t v:=Vc;have hW':=hW;obtain⟨p,q,hA0,hV,-,-,-⟩:=hW;have hA:DataW.TrodAll enc aq W 0 (fun _=>true) true Tryz.f7.params.toList args.toList ds p:=hA0;rw[Tryz.params7] at hA hval;obtain⟨v0,v1,v2,d0,d1,d2,p0,p1,p2,rfl,rfl,rfl,h0,h1,h2⟩:=trodAll_three hA;clear hA0 Vc hA;obtain⟨b,m,s,k,rfl,hm,hs,hk⟩:=UF (hval 0 28 v0 rfl rfl);obtain⟨x,rfl,hx⟩:=Nk Tryz.underlying40 (hval 1 40 v1 rfl rfl);obtain⟨dz,rfl,hdz⟩:=Nk Tryz.underlying5 (hval 2 5 v2 rfl rfl);obtain⟨dn,rfl⟩:∃dn:Nat,dz=dn:=⟨dz.toNat,by have:=hdz.1;simp[IntKind.min,IntKind.signed] at this;omega⟩
 have hdn:dn<256:=by have:=hdz.2;simp[IntKind.max,IntKind.signed,IntKind.bits] at this;omega
 obtain⟨ps,ns,cs,rfl⟩:=hs.lit;obtain⟨pk,nk,ck,rfl⟩:=hk.lit;have hla:=TJ hL;have LX:=Wv h0 hm
 obtain⟨M,last,o,w',t',r1,r2,r3,r4⟩:=Df quiet (f:=7) (args:=#[.agg (b.cells m (.slice ps ns cs) (.slice pk nk ck)),.int .u16 x,.int .u8 (dn:Int)]) (v0:=.bool true) (by kernel_rfl) W fun Wk hsz nx=>by
  rcases LX with⟨q1,n1,c1,rfl,hbig⟩|⟨q1,c1,ml,rfl,hr⟩
  ·exact Sj b _ _ _ _ _ _ _ _ _ hbig x dn (hla.kill hsz nx)
  ·exact Ya b _ _ _ _ _ _ _ _ ml x dn hdn (hla.kill hsz nx) (Reads.kill hr hsz nx)
 refine⟨M,last,o,w',t',r1,r2,r3,r4.mono ?_⟩;rintro v ⟨rfl,hb⟩;refine QC (tb:=4) Tryz.laidOut rfl (fun t ht=>?_) (by kernel_rfl) Tryz.underlying4 hW' (fun X8 hl=>?_) ?_ hb
 ·rw[Tryz.params7] at ht;simp at ht;rcases ht with rfl|rfl|rfl<;>exact⟨by kernel_rfl,of_decide_eq_true (by kernel_rfl)⟩
 ·rw[Tryz.params7] at hl
  match X8,hl with
  |[a,b,c],_=>rfl
 ·rw[Tryz.params7];rfl
end Go.Proofs.YtffladgmkiimjaaGreatDoor
