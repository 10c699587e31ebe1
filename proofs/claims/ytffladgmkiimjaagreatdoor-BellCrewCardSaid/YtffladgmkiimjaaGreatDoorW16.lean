/- breathed (19), beside leavers. BellCrew (8) of a book with too many me .. -/
import Derived.Test.YtffladgmkiimjaaGreatDoorW15
import Derived.Test.YtffladgmkiimjaaGreatDoorW14
import Derived.Test.YtffladgmkiimjaaGreatDoorW03
import Derived.Test.YtffladgmkiimjaaGreatDoorW05
import Derived.Test.YtffladgmkiimjaaGreatDoorW04
import Derived.Test.YtffladgmkiimjaaGreatDoorW12
set_option linter.all false
set_option maxHeartbeats 100000000
set_option maxRecDepth 1000000
open Array renaming replicate → aV,getElem?_eq_some_iff → ak
open Go renaming TypeId → aZ,undef → af,Value → aj,World → ar,results_tmp → bU
open Go.Ending renaming returned → aC
open Go.IntKind renaming i64 → ag,wrap_i64 → cD
open Go.Lib renaming hid → ai
open Go.Obj renaming cells → au
open Go.Operand renaming tmp → aJ
open Go.Proofs.Tryz renaming prog → aq,underlying28 → cG
open Go.RowKit renaming Below → az
open Go.RowKit.Below renaming heap_alloc → aS,refl → aw,heap_setCell → bj
open Go.Value renaming bool → aF,int → aG,agg → aO,slice → ae,int → ah,pointer → bp,tuple → cA,oneCell' → cu
open Go.World renaming alloc_heap_new → ay,ownsRow_nil → dL
open List renaming range → aT,getElem_mem → bO,mem_range → bt,mem_cons_of_mem → bz,mem_map → cY,map_cons → cg,getElem?_eq_getElem → dg,length_map → dz,length_cons → gi,mem_flatMap → mG,map_congr_left → nG,range_succ → sQ,getD_eq_getElem?_getD → wI
open Nat renaming le_trans → aN,le_refl → ax,zero_add → cJ,reduceEqDiff → cR
open Option.some renaming inj → bg
open Or renaming inl → cF
namespace Go.Proofs.YtffladgmkiimjaaGreatDoor
open Go.RowKit Go.Lag
open Go.Conc
theorem Typed.old{w w':ar}{v:aj}{t:aZ}(h:Typed w v t)(ho:Old w w'):Typed w' v t:=fun g hg=>by
 obtain⟨c,hc⟩:=h g hg;exact⟨c,(ho.block g (ak.1 hc).1).trans hc⟩
theorem Typed.qP{w:ar}{v:aj}{t u:aZ}(h:Typed w v t){B:Nat}{z cs:Array aj}(hB:w.heap[B]?=some (au z u (0,0)))(ht:t≠u):Typed (w.setRow B cs) v t:=h.setRow fun g hg=>by
 obtain⟨c,hc⟩:=h g hg;rintro rfl;rw[hc] at hB;cases hB;exact ht rfl
theorem Typed.at_{w w':ar}{v:aj}{t:aZ}{n:Nat}{xs:List aj}(hr:Reads w v n xs)(hs:w.heap.size≤w'.heap.size)(hk:∀g,v.ownBlock=some g→w'.heap[g]?=w.heap[g]?):Reads w' v n xs:=hr.at_ hs hk
theorem fB.old{b:BB}{m s k:aj}{ml:List Mn}{ss:List Int}{ms:List Mk}{w w':ar}(h:fB b m s k ml ss ms w)(ho:Old w w'):fB b m s k ml ss ms w':=⟨h.tocI.old ho,h.t1.old ho,h.t2.old ho,h.t3.old ho⟩
theorem Og{w:ar}{v:aj}{t u:aZ}(h:Typed w v t){B:Nat}{z:Array aj}(hB:w.heap[B]?=some (au z u (0,0)))(ht:t≠u):∀g,v.ownBlock=some g→g≠B:=fun g hg=>by
 obtain⟨c,hc⟩:=h g hg;rintro rfl;rw[hc] at hB;cases hB;exact ht rfl
theorem fB.qP{b:BB}{m s k:aj}{ml:List Mn}{ss:List Int}{ms:List Mk}{w:ar}(h:fB b m s k ml ss ms w){B:Nat}{z cs:Array aj}(hB:w.heap[B]?=some (au z 28 (0,0))):fB b m s k ml ss ms (w.setRow B cs):=
 ⟨⟨h.ok,h.gX,h.l9,h.kE,h.rm.at_ (by rw[setRow_size];exact ax _) fun g hg=>setRow_other (Og h.t1 hB (by decide) g hg),h.rs.at_ (by rw[setRow_size];exact ax _) fun g hg=>setRow_other (Og h.t2 hB (by decide) g hg),h.rk.at_ (by rw[setRow_size];exact ax _) fun g hg=>setRow_other (Og h.t3 hB (by decide) g hg)⟩,
  h.t1.qP hB (by decide),h.t2.qP hB (by decide),h.t3.qP hB (by decide)⟩
theorem Yp.old{m:aj}{w w':ar}(h:Yp m w)(ho:Old w w'):Yp m w':=⟨h.own.old ho,h.pl.old ho⟩
theorem Yp.qP{m:aj}{w:ar}(h:Yp m w){B:Nat}{z cs:Array aj}(hB:w.heap[B]?=some (au z 28 (0,0))):Yp m (w.setRow B cs):=⟨h.own.qP hB,fun g hg=>by
 obtain⟨h1,c,e,y,h2,h3⟩:=h.pl g hg
 exact⟨h1,c,e,y,(setRow_other (Og h.own.t1 hB (by decide) g hg)).trans h2,h3⟩⟩
theorem DW{W w:ar}(h:Old W w){B:Nat}{cs:Array aj}(hB:W.heap.size≤B):Old W (w.setRow B cs):=⟨h.os,h.output,by rw[setRow_size];exact h.size,fun k hk=>(setRow_other (by omega)).trans (h.block k hk)⟩
theorem vK(w:ar):Plain w (ae none 0 0):=fun g hg=>by cases hg
structure BrW(W0:ar)(B:Nat)(m:aj)(W:ar):Prop where
 since:Old W0 W
 laid:Laid W
 bk:W.heap[B]?=some (au (ex.cells m (ae none 0 0) (ae none 0 0)) 28 (0,0))
 ex:Yp m W
theorem bJ{W W':ar}{B:Nat}{o:Obj}(h:W.heap[B]?=some o)(ho:Old W W'):W'.heap[B]?=some o:=(ho.block _ (ak.1 h).1).trans h
theorem BrW.old{W0 W W':ar}{B:Nat}{m:aj}(h:BrW W0 B m W)(ho:Old W W'):BrW W0 B m W':=⟨h.since.trans ho,h.laid.old ho,bJ h.bk ho,h.ex.old ho⟩
structure BrC(b:BB)(ms:List Mk)(B:Nat)(m s k:aj)(W:ar):Prop where
 bk:W.heap[B]?=some (au (b.cells m s k) 28 (0,0))
 own:fB b m s k jO [] ms W
theorem BrC.old{b:BB}{ms:List Mk}{W W':ar}{B:Nat}{m s k:aj}(h:BrC b ms B m s k W)(ho:Old W W'):BrC b ms B m s k W':=⟨bJ h.bk ho,h.own.old ho⟩
abbrev pR(l:List Int):Pred:=fun v _ w=>Reads w v l.length (l.map (aG ag))
theorem kR{S:ar→Prop}{l:List Int}:∀(u:aj) (ds:List aj) (w w':ar),S w→pR l u ds w→az w.heap.size w w'→pR l u ds w':=fun _ _ _ _ _ h hb=>h.below hb
abbrev pL(l:List Int):Pred:=fun v _ w=>∃q,v=ae (some ⟨q,0,none⟩) l.length l.length∧w.heap[q]?=some (au (l.map (aG ag)).toArray 3 (0,0))
theorem kL{S:ar→Prop}{l:List Int}:∀(u:aj) (ds:List aj) (w w':ar),S w→pL l u ds w→az w.heap.size w w'→pL l u ds w':=fun _ _ _ _ _ ⟨q,h1,h2⟩ hb=>⟨q,h1,bJ h2 (Old.of_below hb)⟩
abbrev pT(r:List aj)(l:List Int):Pred:=fun v _ w=>∃x,v=cA (x::r).toArray∧Reads w x l.length (l.map (aG ag))
theorem kT{S:ar→Prop}{r:List aj}{l:List Int}:∀(u:aj) (ds:List aj) (w w':ar),S w→pT r l u ds w→az w.heap.size w w'→pT r l u ds w':=fun _ _ _ _ _ ⟨x,h1,h2⟩ hb=>⟨x,h1,h2.below hb⟩
abbrev pB(b:BB)(ms:List Mk):Pred:=fun v _ w=>∃m s k,v=aO (b.cells m s k)∧fB b m s k jO [] ms w
theorem kB{S:ar→Prop}{b:BB}{ms:List Mk}:∀(u:aj) (ds:List aj) (w w':ar),S w→pB b ms u ds w→az w.heap.size w w'→pB b ms u ds w':=fun _ _ _ _ _ ⟨m,s,k,h1,h2⟩ hb=>⟨m,s,k,h1,h2.old (Old.of_below hb)⟩
abbrev pU(b:BB)(ms:List Mk):Pred:=fun v _ w=>∃m s k,v=cA #[aO (b.cells m s k),ah ag 0]∧fB b m s k jO [] ms w
theorem kU{S:ar→Prop}{b:BB}{ms:List Mk}:∀(u:aj) (ds:List aj) (w w':ar),S w→pU b ms u ds w→az w.heap.size w w'→pU b ms u ds w':=fun _ _ _ _ _ ⟨m,s,k,h1,h2⟩ hb=>⟨m,s,k,h1,h2.old (Old.of_below hb)⟩
abbrev pM(m s:aj):Pred:=fun v _ w=>∃k',v=aO (ex.cells m s k')∧cI ex m s k' jO [] [rz,YN] w
theorem kM{S:ar→Prop}{m s:aj}:∀(u:aj) (ds:List aj) (w w':ar),S w→pM m s u ds w→az w.heap.size w w'→pM m s u ds w':=fun _ _ _ _ _ ⟨k,h1,h2⟩ hb=>⟨k,h1,h2.below hb⟩
abbrev pA(W:ar)(t:aZ)(n:Nat):Pred:=fun v _ w=>∃B,∃z:Array aj,v=pv B 0∧w.heap[B]?=some (au z t (0,0))∧z.size=n∧W.heap.size≤B
theorem kA{S:ar→Prop}{W:ar}{t:aZ}{n:Nat}:∀(u:aj) (ds:List aj) (w w':ar),S w→pA W t n u ds w→az w.heap.size w w'→pA W t n u ds w':=fun _ _ _ _ _ ⟨B,z,h1,h2,h3,h4⟩ hb=>⟨B,z,h1,bJ h2 (Old.of_below hb),h3,h4⟩
abbrev pSB(W:ar)(b:BB)(ms:List Mk):Pred:=fun _ d w=>∃B m s k,d[0]?=some (pv B 0)∧W.heap.size≤B∧w.heap[B]?=some (au (b.cells m s k) 28 (0,0))∧fB b m s k jO [] ms w
theorem kSB{S:ar→Prop}{W:ar}{b:BB}{ms:List Mk}:∀(u:aj) (ds:List aj) (w w':ar),S w→pSB W b ms u ds w→az w.heap.size w w'→pSB W b ms u ds w':=fun _ _ _ _ _ ⟨B,m,s,k,h1,h4,h2,h3⟩ hb=>⟨B,m,s,k,h1,h4,bJ h2 (Old.of_below hb),h3.old (Old.of_below hb)⟩
theorem nL(xs:List Int)(v1 v2:aj)(w:ar)(h1:Reads w v1 xs.length (xs.map (aG ag)))(h2:Reads w v2 xs.length (xs.map (aG ag))) :
  Calls aq 22 #[v1,v2] w fun e w'=>e=aC (aF true)∧az w.heap.size w w':=by
 have h:=Ie xs xs v1 v2 w h1 h2;rw[decide_eq_true (rfl:xs=xs)] at h;exact h
theorem tN{W0:ar}(hL:Laid W0):iV aq 19 #[] W0 fun v W'=>v=aF true∧Old W0 W':=by
 refine kx quiet Tryz.func19 rfl ?hR ?body
 case hR=>
  rintro v W' τ d ⟨h1,h2⟩;exact⟨h1,vM h2⟩
 have hF:jg 329 { tmps:=#[]++aV (Tryz.f19.ntmps-(#[]:Array aj).size) af,defers:=[] } []:=⟨by simp only[Tryz.ntmps19];simp,rfl,trivial⟩
 generalize ({ tmps:=#[]++aV (Tryz.f19.ntmps-(#[]:Array aj).size) af,defers:=[] }:Act)=a at *;refine(fun h:∀W,Old W0 W→nt aq _ (Gx aq Tryz.f19 fun v W'=>v=aF true∧Old W0 W') a W=>h W0 (Old.refl W0)) ?_;intro W h0;refine JF quiet a7 ⟨[],[],[],[]⟩ [(0,aF false)] hF hF trivial trivial ?_;intro a W ho hF;replace h0:=h0.trans ho;clear ho;refine kG quiet (N:=3) rfl ?_;refine rJ quiet ⟨[],[],[],[]⟩ (some 37) (f:=93) (args:=#[]) hF hF (fun w1 hS=>QU (aN hL.lt (h0.trans hS).size)) ?_;rintro w1 _ W hS ⟨m,rfl,xB,hb⟩;obtain⟨pm,cm,rfl,-⟩:=aR xB.own.rm;refine⟨_,rfl,fun a hF=>?_⟩;have ho:=hS.trans (Old.of_below hb);replace h0:=h0.trans ho;clear ho;rename ar=>W37;have FQ:=Old.refl W37;refine oA quiet ⟨[],[],[],[]⟩ (some 1) (fun B=>pv B 0) (#[ah ag 0,ah ag 0,ah ag 0,ah ag 0,ah ag 0,ah ag 0,ah ag 0,ah ag 0,ah ag 0,ah ag 0,ah ag 0,ah ag 0,ae none 0 0,ae none 0 0,ae none 0 0]) 28 hF hF ?_;intro B1 W a G1 ho K1 hF;have agS:=aN (h0.trans FQ).size G1;have ads:=aN FQ.size G1;replace FQ:=FQ.trans ho;clear ho;replace h0:=h0.trans FQ;rename ar=>W1;have h1:=Old.refl W1;refine Gw quiet ⟨[],[],[],[]⟩ (#[ah ag 0,ah ag 0,ah ag 0,ah ag 0,ah ag 0,ah ag 0,ah ag 0,ah ag 0,ah ag 0,ah ag 0,ah ag 0,ah ag 0,ae none 0 0,ae none 0 0,ae none 0 0]) (ex.cells (ae pm jO.length cm) (ae none 0 0) (ae none 0 0)) (aT 15) hF hF (bJ K1 h1) ?_;intro W a up K1 hF;replace h0:=up _ (h0.trans h1) agS;replace FQ:=up _ (FQ.trans h1) ads;clear up;rename ar=>Uu;have m9:=Old.refl Uu;refine kF quiet a7 ?_;generalize (Value.slice pm jO.length cm)=m at *;replace h0:=h0.trans m9;replace FQ:=FQ.trans m9;rename ar=>WE;have hE:=Old.refl WE;have F:BrW W0 B1 m WE:=⟨h0,hL.old h0,(bJ K1 m9),xB.old FQ⟩
 refine JF quiet a7 ⟨[],[(1,cA #[ah ag 60,ah ag 0])],[(B1,(ex.cells m (ae none 0 0) (ae none 0 0)))],[]⟩ [(2,ah ag 60),(3,ah ag 0)] hF hF ⟨fun w1 hS=>⟨_,_,(F.old (hE.trans hS)).bk⟩,trivial⟩ ⟨fun w1 hS _=>have F:=F.old (hE.trans hS);gc (args:=#[aO (ex.cells m (ae none 0 0) (ae none 0 0))]) (WU F.laid F.ex.own.tocI),trivial⟩ ?_;intro a W ho hF;replace hE:=hE.trans ho;clear ho;refine JF quiet a7 ⟨[],[(1,cA #[ah ag 18,ah ag 0])],[(B1,(ex.cells m (ae none 0 0) (ae none 0 0)))],[]⟩ [(4,ah ag 18),(5,ah ag 0)] hF hF ⟨fun w1 hS=>⟨_,_,(F.old (hE.trans hS)).bk⟩,trivial⟩ ⟨fun w1 hS _=>have F:=F.old (hE.trans hS);gc (args:=#[aO (ex.cells m (ae none 0 0) (ae none 0 0)),ah ag 37]) (ady F.laid F.ex.own.tocI),trivial⟩ ?_;intro a W ho hF;replace hE:=hE.trans ho;clear ho;refine kG quiet (N:=10) rfl ?_;refine dh quiet 0 1 9 ⟨[],[],[(B1,(ex.cells m (ae none 0 0) (ae none 0 0)))],[]⟩ [(49,aO (ex.cells m (ae none 0 0) (ae none 0 0)))] hF hF ⟨fun w1 hS=>⟨_,_,(F.old (hE.trans hS)).bk⟩,trivial⟩ trivial ?_;intro a W ho hF;replace hE:=hE.trans ho;clear ho;refine oA quiet ⟨[],[],[],[]⟩ (some 50) (fun B=>ae (some ⟨B,0,none⟩) 2 2) #[ah ag 3,ah ag 4] 3 hF hF ?_;intro B50 W a _ ho Xm hF;replace hE:=hE.trans ho;clear ho;refine dh quiet 2 1 7 ⟨[],[],[],[]⟩ [(51,aO #[ah ag 0,ae (some ⟨B50,0,none⟩) 2 2])] hF hF trivial trivial ?_;intro a W ho hF;replace hE:=hE.trans ho;replace Xm:=bJ Xm ho;clear ho;refine oA quiet ⟨[],[],[],[]⟩ (some 52) (fun B=>ae (some ⟨B,0,none⟩) 1 1) #[ah ag 1] 3 hF hF ?_;intro B52 W a _ ho K52 hF;replace hE:=hE.trans ho;replace Xm:=bJ Xm ho;clear ho;refine rJ quiet ⟨[],[],[],[]⟩ (some 53) (f:=32) (args:=#[aO (ex.cells m (ae none 0 0) (ae none 0 0)),aO #[ah ag 0,ae (some ⟨B50,0,none⟩) 2 2],ae (some ⟨B52,0,none⟩) 1 1]) hF hF (fun w1 hS=>by have F:=F.old (hE.trans hS);exact aah F.laid F.ex.own.tocI _ _ (bJ Xm hS) (bJ K52 hS)) ?_;rintro w1 _ W hS ⟨v6,rfl,r6,hb⟩;refine⟨_,rfl,fun a hF=>?_⟩;have ho:=hS.trans (Old.of_below hb);replace hE:=hE.trans ho;replace Xm:=bJ Xm ho;replace K52:=bJ K52 ho;clear ho;replace h0:=h0.trans hE;replace FQ:=FQ.trans hE;replace m9:=m9.trans hE;rename ar=>W53;have vQ:=Old.refl W53;refine dh quiet 5 5 0 ⟨[],[],[],[]⟩ [(6,v6),(7,ah ag 0)] hF hF trivial trivial ?_;intro a W ho hF;replace Xm:=bJ Xm ho;replace K52:=bJ K52 ho;replace vQ:=vQ.trans ho;clear ho;refine kF quiet a7 ?_;refine JF quiet a7 ⟨[],[(1,cA #[ah ag 4,ah ag 0])],[(B1,(ex.cells m (ae none 0 0) (ae none 0 0)))],[]⟩ [(8,ah ag 4),(9,ah ag 0)] hF hF ⟨fun w1 hS=>⟨_,_,(F.old (hE.trans (vQ.trans hS))).bk⟩,trivial⟩ ⟨fun w1 hS _=>have F:=F.old (hE.trans (vQ.trans hS));gc (args:=#[aO (ex.cells m (ae none 0 0) (ae none 0 0))]) (T2 F.laid F.ex.own.tocI),trivial⟩ ?_;intro a W ho hF;replace vQ:=vQ.trans ho;clear ho;refine kG quiet (N:=9) rfl ?_;refine dh quiet 0 1 8 ⟨[],[],[(B1,(ex.cells m (ae none 0 0) (ae none 0 0)))],[]⟩ [(62,aO (ex.cells m (ae none 0 0) (ae none 0 0)))] hF hF ⟨fun w1 hS=>⟨_,_,(F.old (hE.trans (vQ.trans hS))).bk⟩,trivial⟩ trivial ?_;intro a W ho hF;replace vQ:=vQ.trans ho;clear ho;refine oA quiet ⟨[],[],[],[]⟩ (some 63) (fun B=>ae (some ⟨B,0,none⟩) 2 2) #[ah ag 1,ah ag 3] 3 hF hF ?_;intro B63 W a _ ho K63 hF;replace vQ:=vQ.trans ho;clear ho;refine dh quiet 2 4 3 ⟨[],[(2,cA #[aO #[ah ag 21,ah ag 31],ah ag 0])],[],[]⟩ [(65,aO #[ah ag 21,ah ag 31]),(66,ah ag 0)] hF hF trivial ⟨fun w1 hS _=>have F:=F.old (hE.trans (vQ.trans hS));gc (args:=#[aO (ex.cells m (ae none 0 0) (ae none 0 0)),ae (some ⟨B63,0,none⟩) 2 2,ah ag 5]) (adB F.laid F.ex.own.tocI _ (bJ K63 hS)),trivial⟩ ?_;intro a W ho hF;replace vQ:=vQ.trans ho;replace K63:=bJ K63 ho;clear ho;refine oA quiet ⟨[],[],[],[]⟩ (some 10) (fun B=>pv B 0) (#[ah ag 0,ah ag 0]) 23 hF hF ?_;intro B10 W a G10 ho Jz hF;have adu:=aN (h0.trans vQ).size G10;have aae:=aN (FQ.trans vQ).size G10;have TQ:=aN (m9.trans vQ).size G10;have adt:=aN (hE.trans vQ).size G10;have aad:=aN vQ.size G10;replace vQ:=vQ.trans ho;replace K63:=bJ K63 ho;clear ho;replace h0:=h0.trans vQ;replace FQ:=FQ.trans vQ;replace m9:=m9.trans vQ;replace hE:=hE.trans vQ;rename ar=>W10;have h10:=Old.refl W10;refine Gw quiet ⟨[],[],[],[]⟩ (#[ah ag 0,ah ag 0]) (#[ah ag 21,ah ag 31]) (aT 2) hF hF (bJ Jz h10) ?_;intro W a up Jz hF;replace h0:=up _ (h0.trans h10) adu;replace FQ:=up _ (FQ.trans h10) aae;replace m9:=up _ (m9.trans h10) TQ;replace hE:=up _ (hE.trans h10) adt;replace vQ:=up _ (vQ.trans h10) aad;clear up;rename ar=>Ut;have dp:=Old.refl Ut;refine dh quiet 8 1 0 ⟨[],[],[],[]⟩ [(11,ah ag 0)] hF hF trivial trivial ?_;intro a W ho hF;replace dp:=dp.trans ho;clear ho;refine kF quiet a7 ?_;refine kG quiet (N:=8) rfl ?_;refine dh quiet 0 1 7 ⟨[],[],[(B1,(ex.cells m (ae none 0 0) (ae none 0 0)))],[]⟩ [(68,aO (ex.cells m (ae none 0 0) (ae none 0 0)))] hF hF ⟨fun w1 hS=>⟨_,_,(F.old (hE.trans (dp.trans hS))).bk⟩,trivial⟩ trivial ?_;intro a W ho hF;replace dp:=dp.trans ho;clear ho;refine oA quiet ⟨[],[],[],[]⟩ (some 69) (fun B=>ae (some ⟨B,0,none⟩) 2 2) #[ah ag 1,ah ag 3] 3 hF hF ?_;intro B69 W a _ ho K69 hF;replace dp:=dp.trans ho;clear ho;refine dh quiet 2 6 0 ⟨[],[(2,cA #[ah ag 1,ah ag 0])],[],[]⟩ [(12,ah ag 1),(13,ah ag 0)] hF hF trivial ⟨fun w1 hS _=>have F:=F.old (hE.trans (dp.trans hS));gc (args:=#[aO (ex.cells m (ae none 0 0) (ae none 0 0)),ae (some ⟨B69,0,none⟩) 2 2]) (aaj F.laid F.ex.own.tocI _ (bJ K69 hS)),trivial⟩ ?_;intro a W ho hF;replace dp:=dp.trans ho;replace K69:=bJ K69 ho;clear ho;refine kF quiet a7 ?_;refine kG quiet (N:=8) rfl ?_;refine dh quiet 0 1 7 ⟨[],[],[(B1,(ex.cells m (ae none 0 0) (ae none 0 0)))],[]⟩ [(74,aO (ex.cells m (ae none 0 0) (ae none 0 0)))] hF hF ⟨fun w1 hS=>⟨_,_,(F.old (hE.trans (dp.trans hS))).bk⟩,trivial⟩ trivial ?_;intro a W ho hF;replace dp:=dp.trans ho;clear ho;refine oA quiet ⟨[],[],[],[]⟩ (some 75) (fun B=>ae (some ⟨B,0,none⟩) 2 2) #[ah ag 1,ah ag 2] 3 hF hF ?_;intro B75 W a _ ho K75 hF;replace dp:=dp.trans ho;clear ho;refine dh quiet 2 6 0 ⟨[],[(2,cA #[ah ag 0,ah ag 0])],[],[]⟩ [(14,ah ag 0),(15,ah ag 0)] hF hF trivial ⟨fun w1 hS _=>have F:=F.old (hE.trans (dp.trans hS));gc (args:=#[aO (ex.cells m (ae none 0 0) (ae none 0 0)),ae (some ⟨B75,0,none⟩) 2 2]) (WV F.laid F.ex.own.tocI _ (bJ K75 hS)),trivial⟩ ?_;intro a W ho hF;replace dp:=dp.trans ho;replace K75:=bJ K75 ho;clear ho;refine kF quiet a7 ?_;refine JF quiet a7 ⟨[],[(1,cA #[ah ag 2,aF true,ah ag 0])],[(B1,(ex.cells m (ae none 0 0) (ae none 0 0)))],[]⟩ [(16,ah ag 2),(17,aF true),(18,ah ag 0)] hF hF ⟨fun w1 hS=>⟨_,_,(F.old (hE.trans (dp.trans hS))).bk⟩,trivial⟩ ⟨fun w1 hS _=>have F:=F.old (hE.trans (dp.trans hS));gc (args:=#[aO (ex.cells m (ae none 0 0) (ae none 0 0)),ae none 0 0]) (adz F.laid F.ex.own.tocI),trivial⟩ ?_;intro a W ho hF;replace dp:=dp.trans ho;clear ho;refine kG quiet (N:=9) rfl ?_;refine dh quiet 0 1 8 ⟨[],[],[(B1,(ex.cells m (ae none 0 0) (ae none 0 0)))],[]⟩ [(86,aO (ex.cells m (ae none 0 0) (ae none 0 0)))] hF hF ⟨fun w1 hS=>⟨_,_,(F.old (hE.trans (dp.trans hS))).bk⟩,trivial⟩ trivial ?_;intro a W ho hF;replace dp:=dp.trans ho;clear ho;have F1:=(F.old (hE.trans dp))
 refine Uj quiet ⟨[],[],[],[]⟩ (some 87) (f:=20) (args:=#[aO (ex.cells m (ae none 0 0) (ae none 0 0))]) hF hF (T1 F1.laid F1.ex.own.tocI F1.ex.pl (vK _) (vK _)) ?_;rintro _ W ⟨v19,rfl,Kf,ho⟩ a hF;clear F1;replace dp:=dp.trans ho;clear ho;replace h0:=h0.trans dp;replace FQ:=FQ.trans dp;replace m9:=m9.trans dp;replace hE:=hE.trans dp;replace vQ:=vQ.trans dp;rename ar=>W87;have Nq:=Old.refl W87;refine dh quiet 2 7 0 ⟨[],[],[],[]⟩ [(19,v19),(20,aF true),(21,ah ag 0)] hF hF trivial trivial ?_;intro a W ho hF;replace Nq:=Nq.trans ho;clear ho;refine kF quiet a7 ?_;refine kG quiet (N:=9) rfl ?_;refine dh quiet 0 1 8 ⟨[],[],[(B1,(ex.cells m (ae none 0 0) (ae none 0 0)))],[]⟩ [(92,aO (ex.cells m (ae none 0 0) (ae none 0 0)))] hF hF ⟨fun w1 hS=>⟨_,_,(F.old (hE.trans (Nq.trans hS))).bk⟩,trivial⟩ trivial ?_;intro a W ho hF;replace Nq:=Nq.trans ho;clear ho;have F1:=(F.old (hE.trans Nq))
 refine Uj quiet ⟨[],[],[],[]⟩ (some 93) (f:=23) (args:=#[aO (ex.cells m (ae none 0 0) (ae none 0 0))]) hF hF (TY F1.laid F1.ex.own.tocI F1.ex.pl (vK _) (vK _)) ?_;rintro _ W ⟨v22,rfl,Ke,ho⟩ a hF;clear F1;replace Nq:=Nq.trans ho;clear ho;replace h0:=h0.trans Nq;replace FQ:=FQ.trans Nq;replace m9:=m9.trans Nq;replace hE:=hE.trans Nq;replace vQ:=vQ.trans Nq;replace dp:=dp.trans Nq;rename ar=>W93;have RG:=Old.refl W93;refine dh quiet 2 7 0 ⟨[],[],[],[]⟩ [(22,v22),(23,aF true),(24,ah ag 0)] hF hF trivial trivial ?_;intro a W ho hF;replace RG:=RG.trans ho;clear ho;refine kF quiet a7 ?_;refine j7 quiet ?_;refine JF quiet (dO a7) ⟨[(99,false),(103,false),(107,false),(111,false),(115,false),(119,false),(123,false),(127,false),(131,false)],[],[],[]⟩ [(134,aF false)] hF hF trivial trivial ?_;intro a W ho hF;replace RG:=RG.trans ho;clear ho;refine ot quiet (t:=false) (hF.g 0 rfl) ?_;show nt aq _ _ _ _;replace hF:=hF.tl;show nt aq Code.skip _ _ _;refine oq quiet (dO a7) fun τ0 δ0=>?_;have ho:=kg W τ0 δ0;replace RG:=RG.trans ho;clear ho;generalize dx W τ0 δ0=W2 at *;rename ar=>W;show nt aq _ _ _ _;refine j7 quiet ?_;have hold:=(h0.trans RG)
 replace F:=F.old (hE.trans RG);replace r6:=r6.old (vQ.trans RG);replace Jz:=bJ Jz (dp.trans RG);replace Kf:=Kf.old (Nq.trans RG);replace Ke:=Ke.old RG;rename ar=>W
 refine Pd quiet (by kernel_rfl) (dO a7) [pV (ah ag 60),pV (aF false),pV (aF false),pV (ah ag 18),pV (aF false),pV (aF false),pV (aF false),pV (v6),pL [44,38,29,20,11],pV (aF true),pV (aF false),pV (aF false),pV (aF false),pV (ah ag 4),pV (aF false),pV (aF false),pV (aF false),pV (aO #[ah ag 21,ah ag 31]),pV (aO #[ah ag 21,ah ag 31]),pV (aF false),pV (aF false),pV (aF false),pV (ah ag 1),pV (aF false),pV (aF false),pV (aF false),pV (ah ag 0),pV (aF false),pV (aF false),pV (aF false),pV (ah ag 2),pV (aF false),pV (aF false),pV (aF false),pV (aF true),pV (aF false),pV (aF false)]
  _ (by kernel_rfl) hF.size hF.base ?_ ?_ ?_
 ·exact⟨sV,sV,sV,sV,sV,sV,sV,sV,kL,sV,sV,sV,sV,sV,sV,sV,sV,sV,sV,sV,sV,sV,sV,sV,sV,sV,sV,sV,sV,sV,sV,sV,sV,sV,sV,sV,sV,trivial⟩
 ·refine⟨?_,?_,?_,?_,?_,?_,?_,?_,?_,?_,?_,?_,?_,?_,?_,?_,?_,?_,?_,?_,?_,?_,?_,?_,?_,?_,?_,?_,?_,?_,?_,?_,?_,?_,?_,?_,?_,trivial⟩<;>rintro ev w1 hS hc hg hf ⟨-,-,-,-,-,-,-,-,-,-,-,b17,b16,-,b14,-,-,-,b12,-,-,-,Xc,-,-,-,-,-,b8,-,b6,-,-,-,-,-,-,b4,-,b2,-,-,-,-⟩ hd
  all_goals try
   try have d0:ev (aJ _)=_:=hd.1 rfl
   try have d1:ev (aJ _)=_:=hd.2.1 rfl
   try have d2:ev (aJ _)=_:=hd.2.2.1 rfl
   clear hd
   first|refine yw rfl ?_ rfl|refine gL d0 (yw rfl ?_ rfl)|refine gL d1 (yw rfl ?_ rfl)|refine gL d2 (yw rfl ?_ rfl)
   go_simp;done
  ·have d6:ev (aJ 141)=_:=hd.1 rfl;clear hd;refine gL d6 ?_;refine Lag.Yields.value (v:=ae (some ⟨w1.heap.size,0,none⟩) 5 5) (w':=w1.alloc (au #[ah ag 44,ah ag 38,ah ag 29,ah ag 20,ah ag 11] 3)) ?_ ⟨⟨_,rfl,ay _ _⟩,cF ((aw _ _).alloc (ax _) _)⟩;go_simp
  ·have d7:ev (aJ 142)=_:=hd.1 rfl;have d8:pL _ (ev (aJ 143)) [] w1:=hd.2.1 rfl;have d6:ev (aJ 141)=_:=hd.2.2.1 rfl;clear hd;refine gL d6 ?_;obtain⟨q8,e8,hq8⟩:=d8;refine yc (nL [44,38,29,20,11] _ _ w1 (r6.old hS) (iJ (l:=[44,38,29,20,11]) hq8 (by decide))) ?_ fun _=>rfl;go_simp
  ·have d16:ev (aJ 151)=_:=hd.1 rfl;clear hd;refine gL d16 ?_;exact Ku 23 rfl Xc (bJ Jz hS) Tryz.underlying23 rfl (by kernel_rfl) rfl
  ·have d16:ev (aJ 151)=_:=hd.1 rfl;clear hd;refine gL d16 ?_;refine yc (Df 21 31 w1) ?_ fun _=>rfl;go_simp
 intro a W hR;have ho:=hR.s;replace F:=F.old ho;replace r6:=r6.old ho;replace Jz:=bJ Jz ho;replace Kf:=Kf.old ho;replace Ke:=Ke.old ho;replace h0:=hold.trans ho;replace hF:=(hR.fr hF (by kernel_rfl)).cons (t:=171) (hR.val 36 (by decide));clear hold hR ho
 try clear a
 rename Act=>a;rename ar=>W;rename ar=>aaA;have kn:=Old.refl aaA;refine ot quiet (t:=false) (hF.g 0 rfl) ?_;show nt aq _ _ _ _;replace hF:=hF.tl;show nt aq Code.skip _ _ _;refine oq quiet (dO a7) fun τ0 δ0=>?_;have ho:=kg aaA τ0 δ0;replace kn:=kn.trans ho;clear ho;generalize dx aaA τ0 δ0=W at *;rename ar=>W;show nt aq _ _ _ _;refine j7 quiet ?_;refine kG quiet (N:=18) rfl ?_;refine dh quiet 0 8 10 ⟨[(174,false),(178,false)],[],[],[]⟩ [(178,aF false),(179,v19)] hF hF trivial trivial ?_;intro a W ho hF;replace kn:=kn.trans ho;clear ho;refine oA quiet ⟨[(178,false)],[],[],[]⟩ (some 180) (fun B=>ae (some ⟨B,0,none⟩) 2 2) #[ah ag 1,ah ag 3] 3 hF hF ?_;intro ah5 W a _ ho N4 hF;replace kn:=kn.trans ho;clear ho;refine dh quiet 9 5 4 ⟨[(178,false),(184,false)],[(9,aF true)],[],[]⟩ [(184,aF false),(185,v22)] hF hF trivial ⟨fun w1 hS _=>gc (args:=#[v19,ae (some ⟨ah5,0,none⟩) 2 2]) (nL [1,3] _ _ w1 (Kf.old (kn.trans hS)) (iJ (l:=[1,3]) (bJ N4 hS) (by decide))),trivial⟩ ?_;intro a W ho hF;replace kn:=kn.trans ho;replace N4:=bJ N4 ho;clear ho;refine oA quiet ⟨[(184,false)],[],[],[]⟩ (some 186) (fun B=>ae (some ⟨B,0,none⟩) 2 2) #[ah ag 2,ah ag 4] 3 hF hF ?_;intro ah4 W a _ ho aaE hF;replace kn:=kn.trans ho;replace N4:=bJ N4 ho;clear ho;refine dh quiet 15 3 0 ⟨[(184,false)],[(15,aF true)],[],[]⟩ [(189,aF false)] hF hF trivial ⟨fun w1 hS _=>gc (args:=#[v22,ae (some ⟨ah4,0,none⟩) 2 2]) (nL [2,4] _ _ w1 (Ke.old (kn.trans hS)) (iJ (l:=[2,4]) (bJ aaE hS) (by decide))),trivial⟩ ?_;intro a W ho hF;replace kn:=kn.trans ho;replace N4:=bJ N4 ho;replace aaE:=bJ aaE ho;clear ho;refine kF quiet (dO a7) ?_;refine ot quiet (t:=false) (hF.g 0 rfl) ?_;show nt aq _ _ _ _;replace hF:=hF.tl;show nt aq Code.skip _ _ _;refine oq quiet (dO a7) fun τ0 δ0=>?_;have ho:=kg W τ0 δ0;replace kn:=kn.trans ho;clear ho;generalize dx W τ0 δ0=W at *;rename ar=>W;show nt aq _ _ _ _;replace hF:=hF.del 3;simp only[nS,jE,cR,reduceIte] at hF;refine kG quiet (N:=10) rfl ?_;refine dh quiet 0 1 9 ⟨[],[],[(B1,(ex.cells m (ae none 0 0) (ae none 0 0)))],[]⟩ [(191,aO (ex.cells m (ae none 0 0) (ae none 0 0)))] hF hF ⟨fun w1 hS=>⟨_,_,(F.old (kn.trans hS)).bk⟩,trivial⟩ trivial ?_;intro a W ho hF;replace kn:=kn.trans ho;clear ho;refine oA quiet ⟨[],[],[],[]⟩ (some 192) (fun B=>ae (some ⟨B,0,none⟩) 2 2) #[ah ag 1,ah ag 3] 3 hF hF ?_;intro ah3 W a _ ho aaD hF;replace kn:=kn.trans ho;clear ho;refine dh quiet 2 8 0 ⟨[],[(2,cA #[ah ag 44,aF true,ah ag 0])],[],[]⟩ [(25,ah ag 44),(26,aF true),(3,ah ag 0)] hF hF trivial ⟨fun w1 hS _=>have F:=F.old (kn.trans hS);gc (args:=#[aO (ex.cells m (ae none 0 0) (ae none 0 0)),ae (some ⟨ah3,0,none⟩) 2 2]) (QV F.laid F.ex.own.tocI _ (bJ aaD hS)),trivial⟩ ?_;intro a W ho hF;replace kn:=kn.trans ho;replace aaD:=bJ aaD ho;clear ho;refine kF quiet a7 ?_;replace hF:=hF.del 5;simp only[nS,jE,cR,reduceIte] at hF;refine kG quiet (N:=10) rfl ?_;refine dh quiet 0 1 9 ⟨[],[],[(B1,(ex.cells m (ae none 0 0) (ae none 0 0)))],[]⟩ [(198,aO (ex.cells m (ae none 0 0) (ae none 0 0)))] hF hF ⟨fun w1 hS=>⟨_,_,(F.old (kn.trans hS)).bk⟩,trivial⟩ trivial ?_;intro a W ho hF;replace kn:=kn.trans ho;clear ho;refine oA quiet ⟨[],[],[],[]⟩ (some 199) (fun B=>ae (some ⟨B,0,none⟩) 1 1) #[ah ag 1] 3 hF hF ?_;intro ah2 W a _ ho Uy hF;replace kn:=kn.trans ho;clear ho;refine rJ quiet ⟨[],[],[],[]⟩ (some 200) (f:=27) (args:=#[aO (ex.cells m (ae none 0 0) (ae none 0 0)),ae (some ⟨ah2,0,none⟩) 1 1]) hF hF (fun w1 hS=>by have F:=F.old (kn.trans hS);exact aak F.laid F.ex.own.tocI _ (bJ Uy hS)) ?_;rintro w1 _ W hS ⟨v27,rfl,P2,hb⟩;refine⟨_,rfl,fun a hF=>?_⟩;have ho:=hS.trans (Old.of_below hb);replace kn:=kn.trans ho;replace Uy:=bJ Uy ho;clear ho;replace h0:=h0.trans kn;rename ar=>ahp;have I8:=Old.refl ahp;refine dh quiet 3 7 0 ⟨[],[],[],[]⟩ [(27,v27),(28,aF true),(5,ah ag 0)] hF hF trivial trivial ?_;intro a W ho hF;replace Uy:=bJ Uy ho;replace I8:=I8.trans ho;clear ho;refine kF quiet a7 ?_;have hold:=(h0.trans I8)
 replace F:=F.old (kn.trans I8);replace r6:=r6.old (kn.trans I8);replace Jz:=bJ Jz (kn.trans I8);replace Kf:=Kf.old (kn.trans I8);replace Ke:=Ke.old (kn.trans I8);replace P2:=P2.old I8;replace hF:=hF.del 7;simp only[nS,jE,cR,reduceIte] at hF;rename ar=>W
 refine Pd quiet (by kernel_rfl) a7 [pV (aO (ex.cells m (ae none 0 0) (ae none 0 0))),pV (aO #[ah ag 11,ah ag 11]),pV (aO #[ah ag 1,ah ag 11,ah ag 11]),pU ex [rz],pU ex [rz],pB ex [rz],pV (ah ag 0),pA W 28 15,pSB W ex [rz],pV (ah ag 0)]
  _ (by kernel_rfl) hF.size hF.base ?_ ?_ ?_
 ·exact⟨sV,sV,sV,kU,kU,kB,sV,kA,kSB,sV,trivial⟩
 ·refine⟨?_,?_,?_,?_,?_,?_,?_,?_,?_,?_,trivial⟩<;>rintro ev w1 hS hc hg hf ⟨-,-,-,-,-,-,-,-,-,-,-,-,-,-,-,-,-,-,-,-,-,-,-,-,-,-,-,-,-,-,-,-,-,-,-,-,-,-,-,-,-,-,-,-,-,-,-,-,-,-,-,-,-,-,b1,-,-,-⟩ hd
  all_goals try
   try have d0:ev (aJ _)=_:=hd.1 rfl
   clear hd;refine yw rfl ?_ rfl;go_simp;done
  ·clear hd;exact Ku 28 rfl b1 ((F.old hS).bk) cG rfl (by kernel_rfl) rfl
  ·clear hd;refine yc (CR 11 w1) ?_ fun _=>rfl;go_simp
  ·have d0:ev (aJ 205)=_:=hd.1 rfl;have d2:ev (aJ 207)=_:=hd.2.1 rfl;clear hd;have F1:=F.old hS;refine Lag.Yields.call (f:=75) (args:=#[aO (ex.cells m (ae none 0 0) (ae none 0 0)),aO #[ah ag 1,ah ag 11,ah ag 11]]) ?_ (aai F1.laid F1.ex.own.tocI) ?_
   ·go_simp
   ·rintro e w2 ⟨m,s,k,rfl,h1,hb⟩;exact⟨_,rfl,⟨m,s,k,rfl,h1⟩,cF hb⟩
  ·have d3:pU _ _ (ev (aJ 208)) [] w1:=hd.1 rfl;clear hd;exact yv rfl d3
  ·have d4:pU _ _ (ev (aJ 204)) [] w1:=hd.1 rfl;clear hd;obtain⟨m,s,k,e0,hx⟩:=d4;refine Lag.Yields.value (v:=aO (ex.cells m s k)) (w':=w1) ?_ ⟨⟨m,s,k,rfl,hx⟩,cF (aw _ _)⟩;go_simp
  ·have d4:pU _ _ (ev (aJ 204)) [] w1:=hd.1 rfl;clear hd;obtain⟨m,s,k,e0,hx⟩:=d4;exact tV
  ·clear hd;refine Lag.Yields.value (v:=pv w1.heap.size 0) (w':=w1.alloc (au SH 28)) ?_ ⟨⟨_,_,rfl,ay _ _,rfl,hS.size⟩,cF ((aw _ _).alloc (ax _) _)⟩;go_simp
  ·have d7:pA _ _ _ (ev (aJ 29)) [] w1:=hd.1 rfl;have d5:pB _ _ (ev (aJ 209)) [] w1:=hd.2.1 rfl;clear hd;obtain⟨B,z,eB,hB,hz,hge⟩:=d7;obtain⟨m,s,k,ex0,hx⟩:=d5;obtain⟨p1,c1,rfl,_⟩:=aR hx.rm;obtain⟨p2,c2,rfl,_⟩:=aR hx.rs;obtain⟨p3,c3,rfl,_⟩:=aR hx.rk;refine Lag.Yields.nI 28 _ _ rfl B (ex.cells (ae p1 jO.length c1) (ae p2 ([]:List Int).length c2) (ae p3 ([rz]:List Mk).length c3)) eB ex0 28 z hB (by kernel_rfl) hz (by simp[cu]) ⟨⟨B,_,_,_,congrArg some eB,hge,cV hB,hx.qP hB⟩,.inr ⟨DW hS hge,?_⟩⟩;intro j u ds hj hp
   match j,hp with
   |0,hp=>exact hp
   |1,hp=>exact hp
   |2,hp=>exact hp
   |3,⟨m,s,k,h1,h2⟩=>exact⟨m,s,k,h1,h2.qP hB⟩
   |4,⟨m,s,k,h1,h2⟩=>exact⟨m,s,k,h1,h2.qP hB⟩
   |5,⟨m,s,k,h1,h2⟩=>exact⟨m,s,k,h1,h2.qP hB⟩
   |6,hp=>exact hp
   |7,⟨B',z',h1,h2,h3,h4⟩=>
    by_cases zX:B'=B
    ·subst zX;rw[hB] at h2;cases h2;exact⟨B',_,h1,cV hB,hz.symm.trans h3,h4⟩
    ·exact⟨B',z',h1,(setRow_other zX).trans h2,h3,h4⟩
   |8,_=>exact(hj rfl).elim
   |9,hp=>exact hp
   |j+10,_=>trivial
 intro a W hR;have ho:=hR.s;obtain⟨B29,m2,s2,k2,q1,q2,q3,q4⟩:=hR.val 8 (by decide);have e29:a.eval (aJ 29)=bp (some ⟨B29,0,none⟩):=bg q1;have C:BrC ex [rz] B29 m2 s2 k2 W:=⟨q3,q4⟩
 clear q1 q2 q3 q4;replace F:=F.old ho;replace r6:=r6.old ho;replace Jz:=bJ Jz ho;replace Kf:=Kf.old ho;replace Ke:=Ke.old ho;replace P2:=P2.old ho;replace h0:=hold.trans ho;replace hF:=((hR.fr hF (by kernel_rfl)).cons (t:=29) e29).cons (t:=7) (hR.val 9 (by decide));clear hold hR ho e29
 try clear a
 rename Act=>a;rename ar=>W;rename ar=>ahm;have qp:=Old.refl ahm;replace hF:=hF.del 9;simp only[nS,jE,cR,reduceIte] at hF;refine JF quiet a7 ⟨[],[(1,cA #[ah ag 3,ah ag 0])],[(B29,(ex.cells m2 s2 k2))],[]⟩ [(30,ah ag 3),(9,ah ag 0)] hF hF ⟨fun w1 hS=>⟨_,_,(C.old (qp.trans hS)).bk⟩,trivial⟩ ⟨fun w1 hS _=>have F:=F.old (qp.trans hS);have C:=C.old (qp.trans hS);gc (args:=#[aO (ex.cells m2 s2 k2)]) (QW F.laid C.own.tocI),trivial⟩ ?_;intro a W ho hF;replace qp:=qp.trans ho;clear ho;replace hF:=hF.del 11;simp only[nS,jE,cR,reduceIte] at hF;refine kG quiet (N:=7) rfl ?_;refine dh quiet 0 1 6 ⟨[],[],[(B29,(ex.cells m2 s2 k2))],[]⟩ [(217,aO (ex.cells m2 s2 k2))] hF hF ⟨fun w1 hS=>⟨_,_,(C.old (qp.trans hS)).bk⟩,trivial⟩ trivial ?_;intro a W ho hF;replace qp:=qp.trans ho;clear ho;refine rJ quiet ⟨[],[],[],[]⟩ (some 218) (f:=58) (args:=#[aO (ex.cells m2 s2 k2),ah ag 0]) hF hF (fun w1 hS=>by have F:=F.old (qp.trans hS);have C:=C.old (qp.trans hS);exact QX F.laid C.own.tocI) ?_;rintro w1 _ W hS ⟨v31,rfl,Vr,hb⟩;refine⟨_,rfl,fun a hF=>?_⟩;have ho:=hS.trans (Old.of_below hb);replace qp:=qp.trans ho;clear ho;replace h0:=h0.trans qp;rename ar=>aho;have wu:=Old.refl aho;refine dh quiet 2 5 0 ⟨[],[],[],[]⟩ [(31,v31),(11,ah ag 0)] hF hF trivial trivial ?_;intro a W ho hF;replace wu:=wu.trans ho;clear ho;refine kF quiet a7 ?_;replace hF:=hF.del 13;simp only[nS,jE,cR,reduceIte] at hF;refine JF quiet a7 ⟨[],[(1,cA #[ah ag 0,ah ag 2,ah ag 0])],[(B29,(ex.cells m2 s2 k2))],[]⟩ [(32,ah ag 0),(33,ah ag 2),(13,ah ag 0)] hF hF ⟨fun w1 hS=>⟨_,_,(C.old (qp.trans (wu.trans hS))).bk⟩,trivial⟩ ⟨fun w1 hS _=>have F:=F.old (qp.trans (wu.trans hS));have C:=C.old (qp.trans (wu.trans hS));gc (args:=#[aO (ex.cells m2 s2 k2)]) (adA F.laid C.own.tocI),trivial⟩ ?_;intro a W ho hF;replace wu:=wu.trans ho;clear ho;have hold:=(h0.trans wu)
 replace F:=F.old (qp.trans wu);replace r6:=r6.old (qp.trans wu);replace Jz:=bJ Jz (qp.trans wu);replace Kf:=Kf.old (qp.trans wu);replace Ke:=Ke.old (qp.trans wu);replace P2:=P2.old (qp.trans wu);replace C:=C.old (qp.trans wu);replace Vr:=Vr.old wu;replace hF:=hF.del 15;simp only[nS,jE,cR,reduceIte] at hF;rename ar=>W
 refine Pd quiet (by kernel_rfl) a7 [pV (aO (ex.cells m2 s2 k2)),pV (aO #[ah ag 0,ah ag 0]),pU (ex.lk 0 0) [rz],pU (ex.lk 0 0) [rz],pB (ex.lk 0 0) [rz],pV (ah ag 0),pA W 28 15,pSB W (ex.lk 0 0) [rz],pV (ah ag 0)]
  _ (by kernel_rfl) hF.size hF.base ?_ ?_ ?_
 ·exact⟨sV,sV,kU,kU,kB,sV,kA,kSB,sV,trivial⟩
 ·refine⟨?_,?_,?_,?_,?_,?_,?_,?_,?_,trivial⟩<;>rintro ev w1 hS hc hg hf ⟨-,-,-,-,-,-,-,-,-,-,b29,-,-,-,-,-,-,-,-,-,-,-,-,-,-,-,-,-,-,-,-,-,-,-,-,-,-,-,-,-,-,-,-,-,-,-,-,-,-,-,-,-,-,-,-,-,-,-,-,-,-,-,-,-,-⟩ hd
  ·clear hd;exact Ku 28 rfl b29 ((C.old hS).bk) cG rfl (by kernel_rfl) rfl
  ·clear hd;refine yc (CR 0 w1) ?_ fun _=>rfl;go_simp
  ·have d0:ev (aJ 228)=_:=hd.1 rfl;have d1:ev (aJ 229)=_:=hd.2.1 rfl;clear hd;have F1:=F.old hS;have C1:=C.old hS;refine Lag.Yields.call (f:=80) (args:=#[aO (ex.cells m2 s2 k2),aO #[ah ag 0,ah ag 0]]) ?_ (WX F1.laid C1.own.tocI) ?_
   ·go_simp
   ·rintro e w2 ⟨m,s,k,rfl,h1,hb⟩;exact⟨_,rfl,⟨m,s,k,rfl,h1⟩,cF hb⟩
  ·have d2:pU _ _ (ev (aJ 230)) [] w1:=hd.1 rfl;clear hd;exact yv rfl d2
  ·have d3:pU _ _ (ev (aJ 227)) [] w1:=hd.1 rfl;clear hd;obtain⟨m,s,k,e0,hx⟩:=d3;refine Lag.Yields.value (v:=aO ((ex.lk 0 0).cells m s k)) (w':=w1) ?_ ⟨⟨m,s,k,rfl,hx⟩,cF (aw _ _)⟩;go_simp
  ·have d3:pU _ _ (ev (aJ 227)) [] w1:=hd.1 rfl;clear hd;obtain⟨m,s,k,e0,hx⟩:=d3;exact tV
  ·clear hd;refine Lag.Yields.value (v:=pv w1.heap.size 0) (w':=w1.alloc (au SH 28)) ?_ ⟨⟨_,_,rfl,ay _ _,rfl,hS.size⟩,cF ((aw _ _).alloc (ax _) _)⟩;go_simp
  ·have d6:pA _ _ _ (ev (aJ 34)) [] w1:=hd.1 rfl;have d4:pB _ _ (ev (aJ 231)) [] w1:=hd.2.1 rfl;clear hd;obtain⟨B,z,eB,hB,hz,hge⟩:=d6;obtain⟨m,s,k,ex0,hx⟩:=d4;obtain⟨p1,c1,rfl,_⟩:=aR hx.rm;obtain⟨p2,c2,rfl,_⟩:=aR hx.rs;obtain⟨p3,c3,rfl,_⟩:=aR hx.rk;refine Lag.Yields.nI 28 _ _ rfl B ((ex.lk 0 0).cells (ae p1 jO.length c1) (ae p2 ([]:List Int).length c2) (ae p3 ([rz]:List Mk).length c3)) eB ex0 28 z hB (by kernel_rfl) hz (by simp[cu]) ⟨⟨B,_,_,_,congrArg some eB,hge,cV hB,hx.qP hB⟩,.inr ⟨DW hS hge,?_⟩⟩;intro j u ds hj hp
   match j,hp with
   |0,hp=>exact hp
   |1,hp=>exact hp
   |2,⟨m,s,k,h1,h2⟩=>exact⟨m,s,k,h1,h2.qP hB⟩
   |3,⟨m,s,k,h1,h2⟩=>exact⟨m,s,k,h1,h2.qP hB⟩
   |4,⟨m,s,k,h1,h2⟩=>exact⟨m,s,k,h1,h2.qP hB⟩
   |5,hp=>exact hp
   |6,⟨B',z',h1,h2,h3,h4⟩=>
    by_cases zX:B'=B
    ·subst zX;rw[hB] at h2;cases h2;exact⟨B',_,h1,cV hB,hz.symm.trans h3,h4⟩
    ·exact⟨B',z',h1,(setRow_other zX).trans h2,h3,h4⟩
   |7,_=>exact(hj rfl).elim
   |8,hp=>exact hp
   |j+9,_=>trivial
  ·have d5:ev (aJ 232)=_:=hd.1 rfl;clear hd;exact tV
 intro a W hR;have ho:=hR.s;obtain⟨B34,m3,s3,k3,q1,q2,q3,q4⟩:=hR.val 7 (by decide);have e34:a.eval (aJ 34)=bp (some ⟨B34,0,none⟩):=bg q1;have O:BrC (ex.lk 0 0) [rz] B34 m3 s3 k3 W:=⟨q3,q4⟩
 clear q1 q2 q3 q4;replace F:=F.old ho;replace r6:=r6.old ho;replace Jz:=bJ Jz ho;replace Kf:=Kf.old ho;replace Ke:=Ke.old ho;replace P2:=P2.old ho;replace C:=C.old ho;replace Vr:=Vr.old ho;replace h0:=hold.trans ho;replace hF:=((hR.fr hF (by kernel_rfl)).cons (t:=34) e34).cons (t:=15) (hR.val 8 (by decide));clear hold hR ho e34
 try clear a
 rename Act=>a;rename ar=>W;rename ar=>ahl;have su:=Old.refl ahl;replace hF:=hF.del 18;simp only[nS,jE,cR,reduceIte] at hF;refine kG quiet (N:=7) rfl ?_;refine dh quiet 0 1 6 ⟨[],[],[(B34,((ex.lk 0 0).cells m3 s3 k3))],[]⟩ [(234,aO ((ex.lk 0 0).cells m3 s3 k3))] hF hF ⟨fun w1 hS=>⟨_,_,(O.old (su.trans hS)).bk⟩,trivial⟩ trivial ?_;intro a W ho hF;replace su:=su.trans ho;clear ho;refine rJ quiet ⟨[],[],[],[]⟩ (some 235) (f:=58) (args:=#[aO ((ex.lk 0 0).cells m3 s3 k3),ah ag 0]) hF hF (fun w1 hS=>by have F:=F.old (su.trans hS);have O:=O.old (su.trans hS);exact Nv F.laid O.own.tocI) ?_;rintro w1 _ W hS ⟨v35,rfl,r35,hb⟩;refine⟨_,rfl,fun a hF=>?_⟩;have ho:=hS.trans (Old.of_below hb);replace su:=su.trans ho;clear ho;replace h0:=h0.trans su;rename ar=>ahn;have uA:=Old.refl ahn;refine dh quiet 2 5 0 ⟨[],[],[],[]⟩ [(35,v35),(18,ah ag 0)] hF hF trivial trivial ?_;intro a W ho hF;replace uA:=uA.trans ho;clear ho;refine kF quiet a7 ?_;replace hF:=hF.del 21;simp only[nS,jE,cR,reduceIte] at hF;refine JF quiet a7 ⟨[],[(1,cA #[aO gV,ah ag 7])],[(B29,(ex.cells m2 s2 k2))],[]⟩ [(21,ah ag 7)] hF hF ⟨fun w1 hS=>⟨_,_,(C.old (su.trans (uA.trans hS))).bk⟩,trivial⟩ ⟨fun w1 hS _=>have F:=F.old (su.trans (uA.trans hS));have C:=C.old (su.trans (uA.trans hS));gc (args:=#[aO (ex.cells m2 s2 k2),ah ag 1]) (aag F.laid C.own.tocI),trivial⟩ ?_;intro a W ho hF;replace uA:=uA.trans ho;clear ho;have hold:=(h0.trans uA)
 replace F:=F.old (su.trans uA);replace r6:=r6.old (su.trans uA);replace Jz:=bJ Jz (su.trans uA);replace Kf:=Kf.old (su.trans uA);replace Ke:=Ke.old (su.trans uA);replace P2:=P2.old (su.trans uA);replace C:=C.old (su.trans uA);replace Vr:=Vr.old (su.trans uA);replace O:=O.old (su.trans uA);replace r35:=r35.old uA;replace hF:=hF.del 24;simp only[nS,jE,cR,reduceIte] at hF;rename ar=>W
 refine Pd quiet (by kernel_rfl) a7 [pV (aO (ex.cells m2 s2 k2)),pV (aO #[ah ag 12,ah ag 12]),pV (aO #[ah ag 1,ah ag 12,ah ag 12]),pM m2 s2,pT [ah ag 0] [0,1],pT [ah ag 0] [0,1],pR [0,1],pV (ah ag 0),pR [0,1],pV (ah ag 0)]
  _ (by kernel_rfl) hF.size hF.base ?_ ?_ ?_
 ·exact⟨sV,sV,sV,kM,kT,kT,kR,sV,kR,sV,trivial⟩
 ·refine⟨?_,?_,?_,?_,?_,?_,?_,?_,?_,?_,trivial⟩<;>rintro ev w1 hS hc hg hf ⟨-,-,-,-,-,-,-,-,-,-,-,-,-,-,-,-,-,b29,-,-,-,-,-,-,-,-,-,-,-,-,-,-,-,-,-,-,-,-,-,-,-,-,-,-,-,-,-,-,-,-,-,-,-,-,-,-,-,-,-,-,-,-,-,-,-,-,-,-,-⟩ hd
  all_goals try
   try have d0:ev (aJ _)=_:=hd.1 rfl
   clear hd;refine yw rfl ?_ rfl;go_simp;done
  ·clear hd;exact Ku 28 rfl b29 ((C.old hS).bk) cG rfl (by kernel_rfl) rfl
  ·clear hd;refine yc (CR 12 w1) ?_ fun _=>rfl;go_simp
  ·have d0:ev (aJ 244)=_:=hd.1 rfl;have d2:ev (aJ 246)=_:=hd.2.1 rfl;clear hd;have F1:=F.old hS;have C1:=C.old hS;refine Lag.Yields.call (f:=88) (args:=#[aO (ex.cells m2 s2 k2),aO #[ah ag 1,ah ag 12,ah ag 12]]) ?_ (TX C1.own.tocI) ?_
   ·go_simp
   ·rintro e w2 ⟨k',rfl,h1,hb⟩;exact⟨_,rfl,⟨k',rfl,h1⟩,cF hb⟩
  ·have d3:pM _ _ (ev (aJ 247)) [] w1:=hd.1 rfl;clear hd;have F1:=F.old hS;obtain⟨k',e3,hk⟩:=d3;refine Lag.Yields.call (f:=50) (args:=#[aO (ex.cells m2 s2 k')]) ?_ (WW F1.laid hk) ?_
   ·go_simp
   ·rintro e w2 ⟨v,rfl,h1,hb⟩;exact⟨_,rfl,⟨v,rfl,h1⟩,cF hb⟩
  ·have d4:pT _ _ (ev (aJ 248)) [] w1:=hd.1 rfl;clear hd;exact yv rfl d4
  ·have d5:pT _ _ (ev (aJ 243)) [] w1:=hd.1 rfl;clear hd;obtain⟨x,e0,hx⟩:=d5;refine yv (v:=x) ?_ hx;go_simp
  ·have d5:pT _ _ (ev (aJ 243)) [] w1:=hd.1 rfl;clear hd;obtain⟨x,e0,hx⟩:=d5;exact tV
  ·have d6:pR _ (ev (aJ 249)) [] w1:=hd.1 rfl;clear hd;exact yv rfl d6
 intro a W hR;have ho:=hR.s;have r36:pR _ (a.eval (aJ 36)) [] W:=hR.val 8 (by decide);obtain⟨v36,e36⟩:∃v,a.eval (aJ 36)=v:=⟨_,rfl⟩
 rw[e36] at r36;replace F:=F.old ho;replace r6:=r6.old ho;replace Jz:=bJ Jz ho;replace Kf:=Kf.old ho;replace Ke:=Ke.old ho;replace P2:=P2.old ho;replace C:=C.old ho;replace Vr:=Vr.old ho;replace O:=O.old ho;replace r35:=r35.old ho;replace h0:=hold.trans ho;replace hF:=((hR.fr hF (by kernel_rfl)).cons (t:=36) e36).cons (t:=24) (hR.val 9 (by decide));clear hold hR ho e36
 try clear a
 rename Act=>a;rename ar=>W;rename ar=>ahk;have nQ:=Old.refl ahk;refine j7 quiet ?_;refine JF quiet (dO a7) ⟨[(253,false),(257,false),(261,false),(265,false),(269,false),(273,false),(277,false),(281,false),(285,false)],[],[],[]⟩ [(288,aF false)] hF hF trivial trivial ?_;intro a W ho hF;replace nQ:=nQ.trans ho;clear ho;refine ot quiet (t:=false) (hF.g 0 rfl) ?_;show nt aq _ _ _ _;replace hF:=hF.tl;show nt aq Code.skip _ _ _;refine oq quiet (dO a7) fun τ0 δ0=>?_;have ho:=kg W τ0 δ0;replace nQ:=nQ.trans ho;clear ho;generalize dx W τ0 δ0=W at *;rename ar=>W;show nt aq _ _ _ _;replace hF:=hF.del 0;simp only[nS,jE,cR,reduceIte] at hF;refine kG quiet (N:=41) rfl ?_;refine dh quiet 0 10 31 ⟨[(291,true),(294,true),(297,true)],[],[],[]⟩ [(297,aF true),(298,v27)] hF hF trivial trivial ?_;intro a W ho hF;replace nQ:=nQ.trans ho;clear ho;refine oA quiet ⟨[(297,true)],[],[],[]⟩ (some 299) (fun B=>ae (some ⟨B,0,none⟩) 1 1) #[ah ag 0] 3 hF hF ?_;intro ah1 W a _ ho yi hF;replace nQ:=nQ.trans ho;clear ho;refine dh quiet 11 8 22 ⟨[(297,true),(302,true),(306,true)],[(11,aF true)],[],[]⟩ [(306,aF true),(307,v31)] hF hF trivial ⟨fun w1 hS _=>gc (args:=#[v27,ae (some ⟨ah1,0,none⟩) 1 1]) (nL [0] _ _ w1 (P2.old (nQ.trans hS)) (iJ (l:=[0]) (bJ yi hS) (by decide))),trivial⟩ ?_;intro a W ho hF;replace nQ:=nQ.trans ho;replace yi:=bJ yi ho;clear ho;refine oA quiet ⟨[(306,true)],[],[],[]⟩ (some 308) (fun B=>ae (some ⟨B,0,none⟩) 2 2) #[ah ag 3,ah ag 4] 3 hF hF ?_;intro ah0 W a _ ho Fc hF;replace nQ:=nQ.trans ho;replace yi:=bJ yi ho;clear ho;refine dh quiet 20 12 9 ⟨[(306,true),(311,true),(315,true),(319,true)],[(20,aF true)],[],[]⟩ [(319,aF true),(320,v35)] hF hF trivial ⟨fun w1 hS _=>gc (args:=#[v31,ae (some ⟨ah0,0,none⟩) 2 2]) (nL [3,4] _ _ w1 (Vr.old (nQ.trans hS)) (iJ (l:=[3,4]) (bJ Fc hS) (by decide))),trivial⟩ ?_;intro a W ho hF;replace nQ:=nQ.trans ho;replace yi:=bJ yi ho;replace Fc:=bJ Fc ho;clear ho;refine oA quiet ⟨[(319,true)],[],[],[]⟩ (some 321) (fun B=>ae (some ⟨B,0,none⟩) 1 1) #[ah ag 4] 3 hF hF ?_;intro ahZ W a _ ho N3 hF;replace nQ:=nQ.trans ho;replace yi:=bJ yi ho;replace Fc:=bJ Fc ho;clear ho;refine dh quiet 33 4 4 ⟨[(319,true),(324,true)],[(33,aF true)],[],[]⟩ [(324,aF true),(325,v36)] hF hF trivial ⟨fun w1 hS _=>gc (args:=#[v35,ae (some ⟨ahZ,0,none⟩) 1 1]) (nL [4] _ _ w1 (r35.old (nQ.trans hS)) (iJ (l:=[4]) (bJ N3 hS) (by decide))),trivial⟩ ?_;intro a W ho hF;replace nQ:=nQ.trans ho;replace yi:=bJ yi ho;replace Fc:=bJ Fc ho;replace N3:=bJ N3 ho;clear ho;refine oA quiet ⟨[(324,true)],[],[],[]⟩ (some 326) (fun B=>ae (some ⟨B,0,none⟩) 2 2) #[ah ag 0,ah ag 1] 3 hF hF ?_;intro ahY W a _ ho aaC hF;replace nQ:=nQ.trans ho;replace yi:=bJ yi ho;replace Fc:=bJ Fc ho;replace N3:=bJ N3 ho;clear ho;refine dh quiet 38 3 0 ⟨[(324,true)],[(38,aF true)],[],[]⟩ [(0,aF true)] hF hF trivial ⟨fun w1 hS _=>gc (args:=#[v36,ae (some ⟨ahY,0,none⟩) 2 2]) (nL [0,1] _ _ w1 (r36.old (nQ.trans hS)) (iJ (l:=[0,1]) (bJ aaC hS) (by decide))),trivial⟩ ?_;intro a W ho hF;replace nQ:=nQ.trans ho;replace yi:=bJ yi ho;replace Fc:=bJ Fc ho;replace N3:=bJ N3 ho;replace aaC:=bJ aaC ho;clear ho;refine kF quiet a7 ?_;exact kO quiet a7 fun τ d=>wp_ret ⟨hF.defers,_,bU rfl _ _ _,(hF.g 0 rfl),mW τ d (h0.trans nQ)⟩
theorem Ud(b:BB)(p1 p2 p3:Option Addr)(n1 c1 n2 c2 n3 c3:Nat)(hbig:20<n1)(x y:Int){W0:ar}(hL:Laid W0):iV aq 8 #[aO (b.cells (ae p1 n1 c1) (ae p2 n2 c2) (ae p3 n3 c3)),ah .u16 x,ah .u16 y] W0 fun v W'=>v=aF true∧Old W0 W':=by
 refine kx quiet Tryz.func8 rfl ?hR ?body
 case hR=>
  rintro v W' τ d ⟨h1,h2⟩;exact⟨h1,vM h2⟩
 have hF:=kY (args:=#[aO (b.cells (ae p1 n1 c1) (ae p2 n2 c2) (ae p3 n3 c3)),ah .u16 x,ah .u16 y]) (n:=165) (by simp) [(2,ah .u16 y),(1,ah .u16 x),(0,aO (b.cells (ae p1 n1 c1) (ae p2 n2 c2) (ae p3 n3 c3)))] ⟨nw rfl,nw rfl,nw rfl,trivial⟩;rw[show Tryz.f8.ntmps=165 from rfl];generalize (⟨#[aO (b.cells (ae p1 n1 c1) (ae p2 n2 c2) (ae p3 n3 c3)),ah .u16 x,ah .u16 y]++aV (165-(#[aO (b.cells (ae p1 n1 c1) (ae p2 n2 c2) (ae p3 n3 c3)),ah .u16 x,ah .u16 y]:Array aj).size) af,[]⟩:Act)=a at *;refine(fun h:∀W,Old W0 W→nt aq _ (Gx aq Tryz.f8 fun v W'=>v=aF true∧Old W0 W') a W=>h W0 (Old.refl W0)) ?_;intro W h0;refine kG quiet (N:=2) rfl ?_;refine oA quiet ⟨[],[],[],[]⟩ (some 3) (fun B=>pv B 0) (b.cells (ae p1 n1 c1) (ae p2 n2 c2) (ae p3 n3 c3)) 28 hF hF ?_;intro B3 W a G3 ho K3 hF;have TP:=aN h0.size G3;replace h0:=h0.trans ho;clear ho;rename ar=>W3;have h3:=Old.refl W3;refine dh quiet 1 1 0 ⟨[],[],[],[]⟩ [(6,aF false)] hF hF trivial trivial ?_;intro a W ho hF;replace h3:=h3.trans ho;clear ho;refine kF quiet a7 ?_;refine kG quiet (N:=4) rfl ?_;refine dh quiet 0 1 3 ⟨[],[],[],[]⟩ [(20,bp (some ⟨B3,13,none⟩))] hF hF trivial trivial ?_;intro a W ho hF;replace h3:=h3.trans ho;clear ho;refine Gw quiet ⟨[],[],[],[]⟩ (b.cells (ae p1 n1 c1) (ae p2 n2 c2) (ae p3 n3 c3)) (#[ah ag b.room,ah ag b.depth,ah ag b.least,ah ag b.minutes,ah ag b.bM,ah ag b.fD,ah ag b.dc,ah ag b.fC,ah ag b.ll,ah ag b.lm,ah ag b.pl,ah ag b.pm,ae p1 n1 c1,ae none 0 0,ae p3 n3 c3]) [0] hF hF (bJ K3 h3) ?_;intro W a up K3 hF;replace h0:=up _ (h0.trans h3) TP;clear up;rename ar=>adY;have O6:=Old.refl adY;refine dh quiet 2 1 1 ⟨[],[],[],[]⟩ [(21,bp (some ⟨B3,14,none⟩))] hF hF trivial trivial ?_;intro a W ho hF;replace O6:=O6.trans ho;clear ho;refine Gw quiet ⟨[],[],[],[]⟩ (#[ah ag b.room,ah ag b.depth,ah ag b.least,ah ag b.minutes,ah ag b.bM,ah ag b.fD,ah ag b.dc,ah ag b.fC,ah ag b.ll,ah ag b.lm,ah ag b.pl,ah ag b.pm,ae p1 n1 c1,ae none 0 0,ae p3 n3 c3]) (#[ah ag b.room,ah ag b.depth,ah ag b.least,ah ag b.minutes,ah ag b.bM,ah ag b.fD,ah ag b.dc,ah ag b.fC,ah ag b.ll,ah ag b.lm,ah ag b.pl,ah ag b.pm,ae p1 n1 c1,ae none 0 0,ae none 0 0]) [0] hF hF (bJ K3 O6) ?_;intro W a up K3 hF;replace h0:=up _ (h0.trans O6) TP;clear up;rename ar=>adX;have Ew:=Old.refl adX;refine kF quiet a7 ?_;refine j7 quiet ?_;refine JF quiet (dO a7) ⟨[],[(1,aF false)],[(B3,#[ah ag b.room,ah ag b.depth,ah ag b.least,ah ag b.minutes,ah ag b.bM,ah ag b.fD,ah ag b.dc,ah ag b.fC,ah ag b.ll,ah ag b.lm,ah ag b.pl,ah ag b.pm,ae p1 n1 c1,ae none 0 0,ae none 0 0])],[]⟩ [(24,aF true)] hF hF ⟨fun w1 hS=>⟨_,_,bJ K3 (Ew.trans hS)⟩,trivial⟩ ⟨fun w1 hS _=>gc (WN b p1 n1 c1 hbig w1),trivial⟩ ?_;intro a W ho hF;replace Ew:=Ew.trans ho;clear ho;refine ot quiet (t:=true) (hF.g 0 rfl) ?_;show nt aq _ _ _ _;replace hF:=hF.tl;replace hF:=hF.del 6;simp only[nS,jE,cR,reduceIte] at hF;refine ckX quiet (dO a7) 0 ⟨[],[(0,aF true)],[],[]⟩ rfl [(6,aF true)] hF hF trivial ⟨fun w1 hS _=>gv (tN (hL.old (h0.trans (Ew.trans hS)))) (by kernel_rfl),trivial⟩ ?_;intro a W ho hF;replace Ew:=Ew.trans ho;clear ho;exact kO quiet (dO a7) fun τ d=>wp_ret ⟨hF.defers,_,bU rfl _ _ _,(hF.g 0 rfl),mW τ d (h0.trans Ew)⟩
end Go.Proofs.YtffladgmkiimjaaGreatDoor
namespace Go.Proofs.YtffladgmkiimjaaGreatDoor
open Go.RowKit Go.Lag
theorem LS(b:BB){u v:Int}(h:u≤v)(p:Nat):∀k,b.wW v p k≤b.wW u p k
 |0=>Int.le_refl _
 |k+1=>by
  have ih:=LS b h p k;simp only[BB.wW,BB.step];generalize b.wW v p k=x at *;generalize b.wW u p k=y at *;generalize b.holds=H;split<;>split<;>omega
theorem T6{b:BB}(hb:b.Ok){x y:Int}(h:x≤y):b.Li x≤b.Li y:=by
 unfold BB.Li;have:=hb.depth;exact Int.ediv_le_ediv (by omega) (by omega)
theorem zQ(b:BB):∀(xs:List Int) (k:Nat),iG b xs k<0↔∀x∈xs,b.least≤b.Li x
 |[],k=>by simp[iG]
 |x::xs,k=>by
  unfold iG
  by_cases h:b.Li x<b.least
  ·rw[if_pos h];constructor
   ·intro h1;omega
   ·intro h1;have:=h1 x (by simp);omega
  ·rw[if_neg h,zQ b xs (k+1)];constructor
   ·intro h1 y hy;rcases List.mem_cons.1 hy with rfl|hy
    ·omega
    ·exact h1 y hy
   ·exact fun h1 y hy=>h1 y (bz _ hy)
theorem Xb(b:BB)(u:Int)(p:Nat):b.bad u p≤0↔∀i,i<b.minutes.toNat→b.least≤b.Li (b.wW u p (i+1)):=by
 unfold BB.bad;rw[show(1+iG b (b.lN u p b.minutes.toNat) 0≤0)↔iG b (b.lN u p b.minutes.toNat) 0<0 by omega,zQ];unfold BB.lN;simp
theorem LL{b:BB}(hb:b.Ok){u v:Int}(h:u≤v){p:Nat}(hv:b.bad v p≤0):b.bad u p≤0:=by
 rw[Xb] at *;exact fun i hi=>Int.le_trans (hv i hi) (T6 hb (LS b h p (i+1)))
theorem JW{b:BB}(hb:b.Ok){all:List dT}{M:Int}(h1:∀a∈all,a.used≤M)(h2:∃a∈all,a.used=M)(p:Nat):b.sure all p=decide (b.bad (b.bM+M) p≤0):=by
 unfold BB.sure;rw[Bool.eq_iff_iff,List.all_eq_true];simp only[decide_eq_true_eq];constructor
 ·intro h;obtain⟨a,ha,rfl⟩:=h2;exact h a ha
 ·intro h a ha;exact LL hb (by have:=h1 a ha;omega) h
theorem get_put(a:dT)(n:Int){i j:Nat}(hi:i<3)(hj:j<3):(a.put i n).get j=if j=i then n else a.get j:=by
 have h1:i=0∨i=1∨i=2:=by omega
 have h2:j=0∨j=1∨j=2:=by omega
 rcases h1 with rfl|rfl|rfl<;>rcases h2 with rfl|rfl|rfl<;>simp[dT.put,dT.get]
theorem Ef(a:dT)(i:Nat)(n:Int):(a.put i n).leak=a.leak:=by
 unfold dT.put;split<;>rfl
theorem De(a:dT):a.used=a.leak+a.get 0+a.get 1+a.get 2:=rfl
theorem RQ(a:dT)(n:Int){i:Nat}(hi:i<3)(h0:a.get i=0):(a.put i n).used=a.used+n:=by
 rw[De,De,Ef,get_put a n hi (by omega),get_put a n hi (by omega),get_put a n hi (by omega)];have h1:i=0∨i=1∨i=2:=by omega
 rcases h1 with rfl|rfl|rfl<;>simp<;>omega
theorem pX{lo hi n:Int}:n∈fh lo hi↔lo≤n∧n≤hi:=by
 unfold fh;rw[cY];constructor
 ·rintro⟨i,hi,rfl⟩;have:=bt.1 hi;omega
 ·intro h;exact⟨(n-lo).toNat,bt.2 (by omega),by omega⟩
def Em(ml:List Mn)(i:Nat):Int:=match ml[i]? with|some m=>m.hi|none=>0
theorem Aq(ok:dT→Bool):∀(r:List Mn) (iX:Nat) (a x:dT),iX+r.length≤3→x∈leaves ok r iX a→
  x.leak=a.leak∧(∀j,j<iX→x.get j=a.get j)∧(∀i,i<r.length→x.get (iX+i)≤Em r i)∧∀j,iX+r.length≤j→j<3→x.get j=a.get j
 |[],iX,a,x,h,hx=>by
  unfold leaves at hx;split at hx
  ·rw[List.mem_singleton] at hx;subst hx;exact⟨rfl,fun _ _=>rfl,fun i hi=>by simp at hi,fun _ _ _=>rfl⟩
  ·cases hx
 |m::r,iX,a,x,h,hx=>by
  unfold leaves at hx;rw[mG] at hx;obtain⟨n,hn,hx⟩:=hx;have hn:=pX.1 hn;have hl:(m::r).length=r.length+1:=rfl;rw[hl] at h;obtain⟨h1,h2,h3,h4⟩:=Aq ok r (iX+1) (a.put iX n) x (by omega) hx;refine⟨h1.trans (Ef _ _ _),fun j hj=>?_,fun i hi=>?_,fun j hj QC=>?_⟩
  ·rw[h2 j (by omega),get_put a n (by omega) (by omega),if_neg (by omega)]
  ·cases i with
   |zero=>rw[Nat.add_zero,h2 iX (by omega),get_put a n (by omega) (by omega),if_pos rfl];exact hn.2
   |succ i=>
    have:=h3 i (by rw[hl] at hi;omega);rw[show iX+(i+1)=iX+1+i by omega];exact this
  ·rw[hl] at hj;rw[h4 j (by omega) QC,get_put a n (by omega) QC,if_neg (by omega)]
theorem xA{ok:dT→Bool}(cN:∀a,ok a=true):∀(r:List Mn) (iX:Nat) (a:dT),iX+r.length≤3→(∀m∈r,m.lo≤m.hi)→∃x∈leaves ok r iX a,
  x.leak=a.leak∧(∀j,j<iX→x.get j=a.get j)∧(∀i,i<r.length→x.get (iX+i)=Em r i)∧∀j,iX+r.length≤j→j<3→x.get j=a.get j
 |[],iX,a,h,_=>⟨a,by unfold leaves;rw[cN a];simp,rfl,fun _ _=>rfl,fun i hi=>by simp at hi,fun _ _ _=>rfl⟩
 |m::r,iX,a,h,hm=>by
  have hl:(m::r).length=r.length+1:=rfl;rw[hl] at h;obtain⟨x,hx,h1,h2,h3,h4⟩:=xA cN r (iX+1) (a.put iX m.hi) (by omega) fun m' h'=>hm m' (bz _ h');refine⟨x,?_,h1.trans (Ef _ _ _),fun j hj=>?_,fun i hi=>?_,fun j hj QC=>?_⟩
  ·unfold leaves;rw[mG];exact⟨m.hi,pX.2 ⟨hm m (by simp),Int.le_refl _⟩,hx⟩
  ·rw[h2 j (by omega),get_put a _ (by omega) (by omega),if_neg (by omega)]
  ·cases i with
   |zero=>rw[Nat.add_zero,h2 iX (by omega),get_put a _ (by omega) (by omega),if_pos rfl];rfl
   |succ i=>
    have:=h3 i (by rw[hl] at hi;omega);rw[show iX+(i+1)=iX+1+i by omega];exact this
  ·rw[hl] at hj;rw[h4 j (by omega) QC,get_put a _ (by omega) QC,if_neg (by omega)]
def most(b:BB)(ml:List Mn)(c:List Nat):Int:=b.lm+(c.map (Em ml)).sum
theorem Hu{f g:Nat→Int}:∀(c:List Nat),(∀i∈c,f i≤g i)→(c.map f).sum≤(c.map g).sum
 |[],_=>Int.le_refl _
 |i::c,h=>by
  have h1:=h i (by simp);have h2:=Hu c fun j hj=>h j (bz _ hj);simp only[cg,List.sum_cons];omega
theorem Gz(a:dT):∀(c:List Nat) (k:dT),c.Nodup→(∀i∈c,i<3∧k.get i=0)→(c.foldl (fun k i=>k.put i (a.get i)) k).used=k.used+(c.map a.get).sum
 |[],k,_,_=>by simp
 |i::c,k,hn,h=>by
  have hi:=h i (by simp);have wa:=List.nodup_cons.1 hn
  rw[List.foldl_cons,Gz a c _ wa.2 fun j hj=>⟨(h j (bz _ hj)).1,by
   rw[get_put k _ hi.1 (h j (bz _ hj)).1,if_neg (fun e=>wa.1 (by rw[←e];exact hj))]
   exact(h j (bz _ hj)).2⟩,RQ k _ hi.1 hi.2]
  simp only[cg,List.sum_cons];omega
theorem Gy(a:dT){c:List Nat}(hn:c.Nodup)(h3:∀i∈c,i<3):(a.only c).used=a.leak+(c.map a.get).sum:=by
 unfold dT.only;rw[Gz a c _ hn fun i hi=>⟨h3 i hi,by unfold dT.get;split<;>rfl⟩];simp[dT.used]
theorem EJ(n mask:Nat):(bS n mask).Nodup:=(List.nodup_range).sublist List.filter_sublist
theorem pH{n mask i:Nat}(h:i∈bS n mask):i<n:=bt.1 (List.mem_filter.1 h).1
theorem G8{b:BB}(hb:b.Ok){ml:List Mn}(hm:mR ml)(ss:List Int)(p mask:Nat):iC b (aX b ml ss []) p ml.length mask=decide (b.bad (b.bM+most b ml (bS ml.length mask)) p≤0):=by
 have hl:=hm.len;unfold iC;refine JW hb (fun x hx=>?_) ?_ p
 ·obtain⟨a,ha,rfl⟩:=cY.1 hx;unfold aX at ha;obtain⟨n,hn,ha⟩:=mG.1 ha;obtain⟨h1,-,h3,-⟩:=Aq _ ml 0 _ a (by omega) ha;rw[Gy a (EJ _ _) fun i hi=>by have:=pH hi;omega];have:=Hu (f:=a.get) (g:=Em ml) (bS ml.length mask) fun i hi=>by have:=h3 i (pH hi);rwa [cJ] at this
  have hn:=pX.1 hn;unfold most;rw[h1];show n+_≤_;omega
 ·obtain⟨a,ha,h1,-,h3,-⟩:=xA (ok:=jh b ss []) (fun _=>rfl) ml 0 ⟨b.lm,0,0,0⟩ (by omega) fun m h=>by have:=hm.mem m h;omega
  refine⟨_,cY.2 ⟨a,?_,rfl⟩,?_⟩
  ·unfold aX;exact mG.2 ⟨b.lm,pX.2 ⟨hb.leak.2.1,Int.le_refl _⟩,ha⟩
  ·rw[Gy a (EJ _ _) fun i hi=>by have:=pH hi;omega,h1];unfold most;show b.lm+_=_
   congr 2
   refine nG fun i hi=>?_;have:=h3 i (pH hi);rwa [cJ] at this
theorem Mt:∀(ml:List Mn),((aT ml.length).map (Em ml)).sum=(ml.map (·.hi)).sum
 |[]=>rfl
 |m::r=>by
  rw[gi,List.range_succ_eq_map,cg,List.sum_cons,List.map_map,cg,List.sum_cons,←Mt r];rfl
theorem LR{b:BB}(hb:b.Ok){ml:List Mn}(hl:ml.length≤3)(hm:∀m∈ml,m.lo≤m.hi)(ss:List Int)(p:Nat):b.sure (aX b ml ss []) p=decide (b.bad (b.bM+(b.lm+(ml.map (·.hi)).sum)) p≤0):=by
 have V5:∀a:dT,(∀j,ml.length≤j→j<3→a.get j=0)→a.used=a.leak+((aT ml.length).map a.get).sum:=by
  intro a h;rw[De];have:ml.length=0∨ml.length=1∨ml.length=2∨ml.length=3:=by omega
  rcases this with e|e|e|e<;>rw[e] at h ⊢
  ·rw[h 0 (by omega) (by omega),h 1 (by omega) (by omega),h 2 (by omega) (by omega)];simp
  ·rw[h 1 (by omega) (by omega),h 2 (by omega) (by omega)];simp[sQ]
  ·rw[h 2 (by omega) (by omega)];simp[sQ];omega
  ·simp[sQ];omega
 have hz:∀n:Int,∀j,(⟨n,0,0,0⟩:dT).get j=0:=fun n j=>by unfold dT.get;split<;>rfl
 rw[←Mt];refine JW hb (fun a ha=>?_) ?_ p
 ·unfold aX at ha;obtain⟨n,hn,ha⟩:=mG.1 ha;obtain⟨h1,-,h3,h4⟩:=Aq _ ml 0 _ a (by omega) ha;rw[V5 a fun j hj h=>(h4 j (by omega) h).trans (hz _ _),h1];have:=Hu (f:=a.get) (g:=Em ml) (aT ml.length) fun i hi=>by have:=h3 i (bt.1 hi);rwa [cJ] at this
  have hn:=pX.1 hn;show n+_≤_;omega
 ·obtain⟨a,ha,h1,-,h3,h4⟩:=xA (ok:=jh b ss []) (fun _=>rfl) ml 0 ⟨b.lm,0,0,0⟩ (by omega) hm;refine⟨a,?_,?_⟩
  ·unfold aX;exact mG.2 ⟨b.lm,pX.2 ⟨hb.leak.2.1,Int.le_refl _⟩,ha⟩
  ·rw[V5 a fun j hj h=>(h4 j (by omega) h).trans (hz _ _),h1];show b.lm+_=_
   congr 2
   refine nG fun i hi=>?_;have:=h3 i (bt.1 hi);rwa [cJ] at this
def gK(ml:List Mn)(c:List Nat):List Mn:=c.filterMap fun i=>ml[i]?
theorem za(ml:List Mn):∀(c:List Nat),(∀i∈c,i<ml.length)→((gK ml c).map (·.hi)).sum=(c.map (Em ml)).sum∧(gK ml c).length=c.length∧∀m∈gK ml c,m∈ml
 |[],_=>by simp[gK]
 |i::c,h=>by
  obtain⟨h1,h2,h3⟩:=za ml c fun j hj=>h j (bz _ hj);have hi:=h i (by simp);have e:ml[i]?=some ml[i]:=dg hi;have e2:gK ml (i::c)=ml[i]::gK ml c:=by unfold gK;rw[List.filterMap_cons,e]
  have e3:Em ml i=ml[i].hi:=by unfold Em;rw[e]
  rw[e2];refine⟨by simp only[cg,List.sum_cons,h1,e3],by simp[h2],fun m hm=>?_⟩;rcases List.mem_cons.1 hm with rfl|hm
  ·exact bO _
  ·exact h3 m hm
theorem Qo{b:BB}(hb:b.Ok){ml:List Mn}(hm:mR ml)(p mask:Nat):b.sure (aX b (gK ml (bS ml.length mask)) [] []) p=iC b (aX b ml [] []) p ml.length mask:=by
 obtain⟨h1,h2,h3⟩:=za ml (bS ml.length mask) fun i hi=>pH hi;have:=iw ml.length mask;have:=hm.len;rw[G8 hb hm,LR hb (by omega) (fun m h=>by have:=hm.mem m (h3 m h);omega) [] p,h1];rfl
theorem Ha:∀xs:List Int,gG xs xs=0
 |[]=>rfl
 |x::xs=>by simp[gG,vt,Ha xs]
theorem EM:∀(xs ys zs:List Int),gG xs ys<0→gG ys zs<0→gG xs zs<0
 |[],[],zs,h,_=>by simp[gG] at h
 |[],y::ys,[],_,h=>by simp[gG] at h
 |[],y::ys,z::zs,_,_=>by simp[gG]
 |x::xs,[],zs,h,_=>by simp[gG] at h
 |x::xs,y::ys,[],_,h=>by simp[gG] at h
 |x::xs,y::ys,z::zs,h1,h2=>by
  unfold gG at h1 h2 ⊢;have h3:=EM xs ys zs;unfold vt at *
  by_cases a1:x<y
  ·by_cases a2:y<z
   ·have:x<z:=by omega
    simp[this]
   ·by_cases a3:z<y
    ·simp[a2,a3] at h2
    ·have:x<z:=by omega
     simp[this]
  ·by_cases a3:y<x
   ·simp[a1,a3] at h1
   ·have e:x=y:=by omega
    subst e
    by_cases a2:x<z
    ·simp[a2]
    ·by_cases a4:z<x
     ·simp[a2,a4] at h2
     ·simp[a2,a4] at h1 h2 ⊢;exact h3 h1 h2
theorem BZ:∀xs ys:List Int,en xs ys=decide (gG xs ys<0)
 |[],[]=>by simp[en,gG]
 |[],y::ys=>by simp[en,gG]
 |x::xs,[]=>by simp[en,gG]
 |x::xs,y::ys=>by
  have ih:=BZ xs ys;unfold en gG vt
  by_cases a1:x<y
  ·simp[a1]
  ·by_cases a2:y<x
   ·simp[a1,a2]
   ·simp[a1,a2,ih]
def Vb(c l:List Int):Prop:=l.length<c.length∨(c.length=l.length∧gG c l<0)
theorem Vb.trans{a b c:List Int}(h1:Vb a b)(h2:Vb b c):Vb a c:=by
 rcases h1 with h1|⟨h1,h3⟩<;>rcases h2 with h2|⟨h2,h4⟩
 ·exact cF (by omega)
 ·exact cF (by omega)
 ·exact cF (by omega)
 ·exact .inr ⟨h1.trans h2,EM _ _ _ h3 h4⟩
theorem Vb.irrefl(a:List Int):¬Vb a a:=by
 rintro(h|⟨_,h⟩)
 ·omega
 ·rw[Ha] at h;omega
theorem zA(bs f:Bool)(c l:List Int):qx bs f c l=true↔bs=true∧(f=false∨Vb c l):=by
 unfold qx Vb;cases bs<;>cases f<;>simp;constructor
 ·rintro(h|⟨h1,h2⟩)
  ·exact cF h
  ·exact .inr ⟨by omega,h2⟩
 ·rintro(h|⟨h1,h2⟩)
  ·exact cF h
  ·exact .inr ⟨by omega,h2⟩
theorem B5(b:BB)(all:List dT)(p n:Nat):∀M:Nat,
  ((eA b all p n M).2=false→(eA b all p n M).1=[]∧∀m,m<M→iC b all p n m=false)∧
  ((eA b all p n M).2=true→∃m,m<M∧(eA b all p n M).1=cZ n m∧iC b all p n m=true∧∀k,k<M→iC b all p n k=true→¬Vb (cZ n k) (eA b all p n M).1)
 |0=>⟨fun _=>⟨rfl,fun m hm=>by omega⟩,fun h=>by cases h⟩
 |M+1=>by
  obtain⟨h1,h2⟩:=B5 b all p n M;have e:eA b all p n (M+1)=if qx (iC b all p n M) (eA b all p n M).2 (cZ n M) (eA b all p n M).1 then(cZ n M,true) else eA b all p n M:=rfl
  generalize eA b all p n M=r at *
  by_cases ht:qx (iC b all p n M) r.2 (cZ n M) r.1=true
  ·rw[if_pos ht] at e;rw[e];obtain⟨t1,t2⟩:=(zA _ _ _ _).1 ht;refine⟨(fun h=>by cases h),fun _=>⟨M,by omega,rfl,t1,fun k hk hs hb=>?_⟩⟩
   by_cases hkM:k=M
   ·subst hkM;exact Vb.irrefl _ hb
   ·rcases t2 with t2|t2
    ·have:=(h1 t2).2 k (by omega);rw[this] at hs;cases hs
    ·cases hf:r.2 with
     |false=>have:=(h1 hf).2 k (by omega);rw[this] at hs;cases hs
     |true=>
      obtain⟨m,hm,e1,e2,e3⟩:=h2 hf;exact e3 k (by omega) hs (hb.trans t2)
  ·rw[if_neg ht] at e;rw[e];rw[zA] at ht;refine⟨fun hf=>⟨(h1 hf).1,fun m hm=>?_⟩,fun hf=>?_⟩
   ·by_cases hmM:m=M
    ·subst hmM;cases hs:iC b all p n m with
     |false=>rfl
     |true=>exact absurd ⟨hs,cF hf⟩ ht
    ·exact(h1 hf).2 m (by omega)
   ·obtain⟨m,hm,e1,e2,e3⟩:=h2 hf;refine⟨m,by omega,e1,e2,fun k hk hs hb=>?_⟩
    by_cases hkM:k=M
    ·subst hkM;exact ht ⟨hs,.inr hb⟩
    ·exact e3 k (by omega) hs hb
theorem VN(b:BB){ml:List Mn}(hm:mR ml):∀c:List Nat,(∀i∈c,i<ml.length)→b.lm≤most b ml c:=by
 intro c h;unfold most
 have:=Hu (f:=fun _=>(0:Int)) (g:=Em ml) c fun i hi=>by
  have h1:=h i hi;have h2:=hm.mem ml[i] (bO _);unfold Em;rw[dg h1];show(0:Int)≤ml[i].hi;omega
 have h0:(c.map fun _=>(0:Int)).sum=0:=by
  clear this h
  induction c with
  |nil=>rfl
  |cons _ c ih=>simpa using ih
 omega
theorem vp(n:Nat):bS n (2 ^ n-1)=aT n:=by
 unfold bS;rw[List.filter_eq_self];intro i hi;have:=bt.1 hi;simp[Nat.testBit_two_pow_sub_one,this]
theorem G7(n:Nat):bS n 0=[]:=by
 unfold bS;rw[List.filter_eq_nil_iff];intro i _;simp
theorem Uc{b:BB}(hb:b.Ok){ml:List Mn}(hm:mR ml)(p:Nat) :
  let S:=iC b (aX b ml [] []) p ml.length;let r:=eA b (aX b ml [] []) p ml.length (2 ^ ml.length)
  (r.2=S 0)∧(b.sure (aX b ml [] []) p=(r.2&&decide (r.1.length=ml.length)))∧
  (∀m,m<2 ^ ml.length→S m=true→r.2=true∧(cZ ml.length m).length≤r.1.length∧((cZ ml.length m).length=r.1.length→en (cZ ml.length m) r.1=false))∧
  (r.2=false→r.1=[])∧(r.2=true→∃m,m<2 ^ ml.length∧r.1=cZ ml.length m∧S m=true):=by
 intro S r;obtain⟨h1,h2⟩:=B5 b (aX b ml [] []) p ml.length (2 ^ ml.length);have jJ:0<2 ^ ml.length:=Nat.two_pow_pos _;have hS:∀m,S m=decide (b.bad (b.bM+most b ml (bS ml.length m)) p≤0):=fun m=>G8 hb hm [] p m
 have hfull:b.sure (aX b ml [] []) p=S (2 ^ ml.length-1):=by
  rw[LR hb hm.len (fun m h=>by have:=hm.mem m h;omega) [] p,hS,vp];unfold most;rw[Mt]
 have hlen:∀m,(cZ ml.length m).length≤ml.length:=fun m=>by unfold cZ;rw[dz];exact iw _ _
 have hlf:(cZ ml.length (2 ^ ml.length-1)).length=ml.length:=by unfold cZ;rw[dz,vp,List.length_range]
 have h3:∀m,m<2 ^ ml.length→S m=true→r.2=true∧(cZ ml.length m).length≤r.1.length∧((cZ ml.length m).length=r.1.length→en (cZ ml.length m) r.1=false):=by
  intro m hm' hs;cases hf:r.2 with
  |false=>have:=(h1 hf).2 m hm';rw[show iC b (aX b ml [] []) p ml.length m=S m from rfl,hs] at this;cases this
  |true=>
   obtain⟨k,hk,e1,e2,e3⟩:=h2 hf;have:=e3 m hm' hs;refine⟨rfl,Nat.le_of_not_lt fun h=>this (cF h),fun he=>?_⟩;rw[BZ];simp only[decide_eq_false_iff_not];exact fun hc=>this (.inr ⟨he,hc⟩)
 refine⟨?_,?_,h3,fun hf=>(h1 hf).1,fun hf=>?_⟩
 ·cases hf:r.2 with
  |false=>exact((h1 hf).2 0 jJ).symm
  |true=>
   obtain⟨k,hk,e1,e2,e3⟩:=h2 hf;have e2:S k=true:=e2;rw[hS] at e2 ⊢;simp only[decide_eq_true_eq] at e2;symm;rw[decide_eq_true_eq,G7];refine LL hb ?_ e2;have:=VN b hm (bS ml.length k) fun i hi=>pH hi;have h0:most b ml []=b.lm:=by simp[most]
   omega
 ·rw[hfull];cases hs:S (2 ^ ml.length-1) with
  |true=>
   obtain⟨g1,g2,-⟩:=h3 _ (by omega) hs;rw[hlf] at g2;obtain⟨k,hk,e1,-⟩:=h2 g1;have e1:r.1=cZ ml.length k:=e1;have:=hlen k;rw[←e1] at this;rw[g1,decide_eq_true (by omega:r.1.length=ml.length)];rfl
  |false=>
   cases hf:r.2 with
   |false=>rfl
   |true=>
    obtain⟨k,hk,e1,e2,e3⟩:=h2 hf;have e1:r.1=cZ ml.length k:=e1;have e2:S k=true:=e2
    by_cases hq:r.1.length=ml.length
    ·exfalso
     have hc:bS ml.length k=aT ml.length:=by
      have h5:(bS ml.length k).length=ml.length:=by rw[e1] at hq;unfold cZ at hq;rwa [dz] at hq
      exact List.Sublist.eq_of_length (List.filter_sublist) (by rw[List.length_range];exact h5)
     rw[hS,hc] at e2;rw[hS,vp] at hs;rw[hs] at e2;cases e2
    ·rw[decide_eq_false hq];rfl
 ·obtain⟨k,hk,e1,e2,e3⟩:=h2 hf;exact⟨k,hk,e1,e2⟩
theorem Lm(n m:Nat):(bS n m).Pairwise (· < ·):=List.pairwise_lt_range.sublist List.filter_sublist
theorem Q5(n m i:Nat)(h:i<(cZ n m).length):∃k:Nat,(cZ n m)[i]=(k:Int)∧k<n:=by
 unfold cZ at h ⊢;rw[List.getElem_map];exact⟨_,rfl,pH (bO _)⟩
theorem NI(n m:Nat)(hn:n≤3):lR (n:Int) (cZ n m)=0:=by
 unfold lR;rw[nR]
 ·rfl
 intro i hi;unfold ly;obtain⟨k,hk,hkn⟩:=Q5 n m i hi;have e:(cZ n m).getD i 0=(k:Int):=by rw[wI,dg hi,hk];rfl
 have h1:aQ ((cZ n m).getD i 0) 0 ((n:Int)-1)=true:=by rw[e];unfold aQ;simp;omega
 rw[h1];simp only[Bool.not_true,Bool.false_eq_true,if_false];rw[if_neg];rintro⟨h0,h2⟩;have hi':i-1<(cZ n m).length:=by omega
 have e2:(cZ n m).getD (i-1) 0=(cZ n m)[i-1]:=by rw[wI,dg hi'];rfl
 have e1:(cZ n m).getD i 0=(cZ n m)[i]:=by rw[wI,dg hi];rfl
 rw[e1,e2] at h2;have hc:i<(bS n m).length:=by unfold cZ at hi;simpa using hi
 have hs:=List.pairwise_iff_getElem.1 (Lm n m) (i-1) i (by omega) hc (by omega)
 have g:∀j (hj:j<(cZ n m).length) (Tt:j<(bS n m).length),(cZ n m)[j]=((bS n m)[j]:Int):=fun j hj Tt=>by
  unfold cZ;exact List.getElem_map ..
 rw[g i hi hc,g (i-1) hi' (by omega)] at h2;omega
structure N2(k:Nat)(bk zb:Array aj)(o:aj→Array aj)(w0:ar)(mv:aj)(n:Nat)(rows:List aj)(A C:Bool)(w:ar):Prop where
 one:w.heap[k]?=some (au bk 28 (0,0))
 two:w.heap[k+1]?=some (au zb 28 (0,0))
 three:C=false→w.heap[k+2]?=some (au (o mv) 28 (0,0))
 own:A=false→w.ownsRow (k+3) 79 3 mv n rows
 below:az k w0 w
 size:k+3≤w.heap.size
section
variable{k n:Nat}{bk zb:Array aj}{o:aj→Array aj}{w0 w1 w2:ar}{mv:aj}{rows:List aj}{A A' C C':Bool}
theorem N2.next(hA:A'=false→A=false)(hC:C'=false→C=false)(h:N2 k bk zb o w0 mv n rows A C w1)(hb:az w1.heap.size w1 w2):N2 k bk zb o w0 mv n rows A' C' w2:=by
 have hs:=h.size;exact⟨(hb.block _ (by omega)).trans h.one,(hb.block _ (by omega)).trans h.two,fun e=>(hb.block _ (by omega)).trans (h.three (hC e)),fun e=>cX (h.own (hA e)) hb,h.below.trans (hb.mono (by omega)),aN hs hb.size⟩
theorem N2.grown{row:Option Nat}(hA:A'=true)(hC:C'=C)(h:N2 k bk zb o w0 mv n rows A C w1)(g:w1.grownBy w2 row)(hr:∀q,row=some q→k+3≤q):N2 k bk zb o w0 mv n rows A' C' w2:=by
 subst hC;have hs:=h.size;have hn:∀q,q<k+3→some q≠row:=fun q hq e=>by have:=hr q e.symm;omega
 exact⟨(g.block _ (by omega) (hn _ (by omega))).trans h.one,(g.block _ (by omega) (hn _ (by omega))).trans h.two,fun e=>(g.block _ (by omega) (hn _ (by omega))).trans (h.three e),(fun e=>by rw[hA] at e;cases e),h.below.grown g (by omega) (fun q hq=>by have:=hr q hq;omega),aN hs g.size⟩
theorem N2.put(h:N2 k bk zb o w0 mv n rows A C w1){cs:Array aj}(hB:w1.heap[k+2]?=some (au cs 28 (0,0)))(hA:A'=A)(u:aj)(i:Nat):N2 k bk zb o w0 mv n rows A' true (w1.setCell ⟨k+2,i,none⟩ u):=by
 subst hA;have hn:∀q,q≠k+2→(w1.setCell ⟨k+2,i,none⟩ u).heap[q]?=w1.heap[q]?:=fun q hq=>bj _ _ _ _ hq;exact⟨(hn _ (by omega)).trans h.one,(hn _ (by omega)).trans h.two,(fun e=>by cases e),fun e=>di (h.own e) hB (by decide),h.below.setCell (p:=⟨k+2,i,none⟩) (by show k≤k+2;omega) _,by simpa using h.size⟩
theorem N2.drew(h:N2 k bk zb o w0 mv n rows A C w1):N2 k bk zb o w0 mv n rows A C w1.drew:=⟨h.one,h.two,h.three,fun e=>cX (h.own e) (aw _ _).drew,h.below.drew,h.size⟩
end
theorem Qp(ml:List Mn)(c:List Nat)(k:Nat)(hk:k<c.length)(hi:c[k]<ml.length):dS (gK ml (c.take (k+1)))=dS (gK ml (c.take k))++ml[c[k]].cells.toList:=by
 rw[List.take_succ_eq_append_getElem hk];unfold gK;rw[List.filterMap_append];simp[dS,dg hi]
theorem acf{w:ar}{gm om cap n:Nat}{ml:List Mn}(h:Reads w (ae (some ⟨gm,om,none⟩) n cap) ml.length (dS ml))(i j:Nat)(hi:i<ml.length)(hj:j<3)(u:aj)(hu:ml[i].cells[j]?=some u):w.cell? ⟨gm,om+i*3+j,none⟩=some u:=by
 rcases h with⟨h0,_,_⟩|⟨g,off,cap',h0,_,_,h4⟩
 ·cases h0
 ·cases h0;have:=h4 (3*i+j) u (by rw[pP ml i j hi hj];exact hu);rwa [show om+i*3+j=om+(3*i+j) by omega]
theorem S1(b:BB)(p1 pc p2 p3:Option Addr)(c1 cc n2 c2 n3 c3:Nat)(ml:List Mn)(c:List Nat)(hlen:ml.length≤3)(hcl:c.length≤3)(hc:∀i∈c,i<ml.length)(w:ar)(hm:Reads w (ae p1 ml.length c1) ml.length (dS ml))(hx:Reads w (ae pc c.length cc) c.length (c.map fun i=>aG ag (i:Nat))) :
  Calls aq 48 #[aO (b.cells (ae p1 ml.length c1) (ae p2 n2 c2) (ae p3 n3 c3)),ae pc c.length cc] w fun e w'=>∃v,e=aC (aO (b.cells v (ae p2 n2 c2) (ae p3 n3 c3)))∧Reads w' v c.length (dS (gK ml c))∧az w.heap.size w w':=by
 obtain⟨i1,FN,OT,hy1,hy2⟩:=info_parts Ta;have HM:=ai hm;have HX:=ai hx;have HC:=ai hc;generalize hl:ml.length=L at *;generalize Wq:c.length=N at *;have HL:=ai hl;have HN:=ai Wq;have hs0:(((w.alloc (au (b.cells (ae p1 L c1) (ae p2 n2 c2) (ae p3 n3 c3)) 28)).alloc (au #[ah ag 0,ah ag 0,ah ag 0,ah ag 0,ah ag 0,ah ag 0,ah ag 0,ah ag 0,ah ag 0,ah ag 0,ah ag 0,ah ag 0,ae none 0 0,ae none 0 0,ae none 0 0] 28)).alloc (au (b.cells (ae none 0 0) (ae p2 n2 c2) (ae p3 n3 c3)) 28)).heap.size=w.heap.size+3:=by simp
 have Ym:Hid (N2 w.heap.size (b.cells (ae p1 L c1) (ae p2 n2 c2) (ae p3 n3 c3)) #[ah ag 0,ah ag 0,ah ag 0,ah ag 0,ah ag 0,ah ag 0,ah ag 0,ah ag 0,ah ag 0,ah ag 0,ah ag 0,ah ag 0,ae none 0 0,ae none 0 0,ae none 0 0] (fun u=>b.cells u (ae p2 n2 c2) (ae p3 n3 c3)) w (ae none 0 0) 0 [] false false (((w.alloc (au (b.cells (ae p1 L c1) (ae p2 n2 c2) (ae p3 n3 c3)) 28)).alloc (au #[ah ag 0,ah ag 0,ah ag 0,ah ag 0,ah ag 0,ah ag 0,ah ag 0,ah ag 0,ah ag 0,ah ag 0,ah ag 0,ah ag 0,ae none 0 0,ae none 0 0,ae none 0 0] 28)).alloc (au (b.cells (ae none 0 0) (ae p2 n2 c2) (ae p3 n3 c3)) 28))):=
  ai ⟨(aS _ _ _ (by simp;omega)).trans ((aS _ _ _ (by simp)).trans (ay w _)),(aS _ _ _ (by simp)).trans (by have:=ay (w.alloc (au (b.cells (ae p1 L c1) (ae p2 n2 c2) (ae p3 n3 c3)) 28)) (au #[ah ag 0,ah ag 0,ah ag 0,ah ag 0,ah ag 0,ah ag 0,ah ag 0,ah ag 0,ah ag 0,ah ag 0,ah ag 0,ah ag 0,ae none 0 0,ae none 0 0,ae none 0 0] 28);simpa using this),fun _=>(by have:=ay ((w.alloc (au (b.cells (ae p1 L c1) (ae p2 n2 c2) (ae p3 n3 c3)) 28)).alloc (au #[ah ag 0,ah ag 0,ah ag 0,ah ag 0,ah ag 0,ah ag 0,ah ag 0,ah ag 0,ah ag 0,ah ag 0,ah ag 0,ah ag 0,ae none 0 0,ae none 0 0,ae none 0 0] 28)) (au (b.cells (ae none 0 0) (ae p2 n2 c2) (ae p3 n3 c3)) 28);simpa using this),fun _=>dL _ _ _ _,(((aw _ _).alloc (ax _) _).alloc (by simp) _).alloc (by simp;omega) _,by rw[hs0];omega⟩
 clear hm hx hc hl Wq hs0
 go_enter Tryz.func48,Tryz.ntmps48
 go_wp2
 go_loopw [6] (fun i wr=>∃(k:Nat) (mv:aj),k≤N∧i=ah ag k∧N2 w.heap.size (b.cells (ae p1 L c1) (ae p2 n2 c2) (ae p3 n3 c3)) #[ah ag 0,ah ag 0,ah ag 0,ah ag 0,ah ag 0,ah ag 0,ah ag 0,ah ag 0,ah ag 0,ah ag 0,ah ag 0,ah ag 0,ae none 0 0,ae none 0 0,ae none 0 0] (fun u=>b.cells u (ae p2 n2 c2) (ae p3 n3 c3)) w mv k (dS (gK ml (c.take k))) false false wr) (fun i _=>N-(intOf i).toNat)
 case atStart=>exact⟨0,_,Nat.zero_le _,rfl,Ym.out⟩
 case round=>
  obtain⟨k,mv,hk,rfl,hS⟩:=hrel;rename ar=>wr
  by_cases hlt:k<N
  ·obtain⟨i,hik⟩:∃i,c[k]?=some i:=⟨_,dg (by rw[HN.out];exact hlt)⟩
   have hiL:i<L:=HC.out i (List.mem_of_getElem? hik);have hmi:i<ml.length:=by rw[HL.out];exact hiL
   obtain⟨g,off,rfl,HG⟩:∃g off,pc=some ⟨g,off,none⟩∧Hid (∀w9,az w.heap.size w w9→w9.cell? ⟨g,off+k,none⟩=some (ah ag (i:Nat))):=by
    rcases HX.out with⟨_,h0,_⟩|⟨g,off,cap,h0,_,hg,h4⟩
    ·omega
    ·cases h0;exact⟨g,off,rfl,ai fun w9 h9=>(h9.cell (p:=⟨g,off+k,none⟩) hg).trans (h4 k _ (by simp[hik]))⟩
   obtain⟨gm,om,rfl,HO⟩:∃gm om,p1=some ⟨gm,om,none⟩∧Hid (∀w9,az w.heap.size w w9→∀j u,j<3→ml[i].cells[j]?=some u→w9.cell? ⟨gm,om+i*3+j,none⟩=some u):=by
    rcases HM.out with⟨_,h0,_⟩|⟨g,off,cap,h0,_,hg,h4⟩
    ·omega
    ·cases h0
     exact⟨g,off,rfl,ai fun w9 h9 j u hj hu=>by
      have h5:=HM.out;rw[←HL.out] at h5
      exact(h9.cell (p:=⟨g,off+i*3+j,none⟩) hg).trans (acf h5 i j hmi hj u hu)⟩
   generalize hme:ml[i]=me at *;have HME:=ai hme;have HIK:=ai hik;obtain⟨pv,cv,rfl⟩:=dF (hS.own rfl);have HS:=ai hS;clear hS hme hik;have hj1:¬(N≤k):=by omega
   have Tt:¬(L≤i):=by omega
   go_wp2
   refine Ph.bQ (by kernel_rfl) [
   pV (bp (some ⟨w.heap.size+1+1,12,none⟩)),
    pV (ae pv k cv),
    pV (bp (some ⟨w.heap.size,12,none⟩)),
    pV (ae (some ⟨gm,om,none⟩) L c1),
    pV (ae (some ⟨g,off,none⟩) N cc),
    pV (ah ag (k:Nat)),
    pV (bp (some ⟨g,off+k,none⟩)),
    pV (ah ag (i:Nat)),
    pV (bp (some ⟨gm,om+i*3,none⟩)),
    pV (aO me.cells),
    fun v ds w9=>∃q,v=ae (some ⟨q,0,none⟩) 1 1∧w.heap.size+3≤q∧w9.heap[q]?=some (au me.cells 79 (0,0))∧some q≠(ae pv k cv:aj).ownBlock,
    fun v ds w9=>∃p c9,v=ae p (k+1) c9∧w9.ownsRow (w.heap.size+3) 79 3 v (k+1) ((dS (gK ml (c.take k)))++me.cells.toList),
    pV (bp (some ⟨w.heap.size+1+1,12,none⟩)),
    fun v ds w9=>∃x,ds[1]?=some x∧w9.heap[w.heap.size+2]?=some (au (b.cells x (ae p2 n2 c2) (ae p3 n3 c3)) 28 (0,0))]
    (fun L9 w9=>N2 w.heap.size (b.cells (ae (some ⟨gm,om,none⟩) L c1) (ae p2 n2 c2) (ae p3 n3 c3)) #[ah ag 0,ah ag 0,ah ag 0,ah ag 0,ah ag 0,ah ag 0,ah ag 0,ah ag 0,ah ag 0,ah ag 0,ah ag 0,ah ag 0,ae none 0 0,ae none 0 0,ae none 0 0] (fun u=>(b.cells u (ae p2 n2 c2) (ae p3 n3 c3))) w (ae pv k cv) k (dS (gK ml (c.take k))) (L9 11) (L9 13) w9) [(1,ae (some ⟨g,off,none⟩) N cc),(2,bp (some ⟨w.heap.size,0,none⟩)),(5,bp (some ⟨w.heap.size+1+1,0,none⟩)),(6,ah ag (k:Nat))] (by kernel_rfl) ?rst (fun L1 L2 w1 w2 hl h hb=>h.next (hl 11) (hl 13) hb) (HS.out.drew) ⟨rfl,rfl,rfl,rfl,trivial⟩ ?reach ?rfin
   case rst=>
    refine⟨Ph.sV,Ph.sV,Ph.sV,Ph.sV,Ph.sV,Ph.sV,Ph.sV,Ph.sV,Ph.sV,Ph.sV,?_,?_,Ph.sV,?_,trivial⟩
    ·rintro v ds L9 w1 w2 hS ⟨q,h1,h2,h3,h4⟩ hb;exact⟨q,h1,h2,(hb.block _ (ak.1 h3).1).trans h3,h4⟩
    ·rintro v ds L9 w1 w2 hS ⟨p,c9,h1,h2⟩ hb;exact⟨p,c9,h1,cX h2 hb⟩
    ·rintro v ds L9 w1 w2 hS ⟨x,h1,h2⟩ hb;exact⟨x,h1,(hb.block _ (ak.1 h2).1).trans h2⟩
   case reach=>
    refine⟨?_,?_,?_,?_,?_,?_,?_,?_,?_,?_,?_,?_,?_,?_,trivial⟩<;>rintro Lf ev w1 hn vg hS hc hg hf ⟨b1,b2,b5,b6,-⟩ hd
    ·clear hd;refine Ph.yv ?_ rfl;go_simp
    ·have d0:ev (aJ 15)=_:=hd.1 rfl;clear hd;have sw:w1.heap[w.heap.size+1+1]?=some (au (b.cells (ae pv k cv) (ae p2 n2 c2) (ae p3 n3 c3)) 28 (0,0)):=hS.three (hn 13 (by kernel_rfl));have z:=aH sw 12 (ae pv k cv) rfl;refine Ph.yv ?_ rfl;go_simp
    ·clear hd;refine Ph.yv ?_ rfl;go_simp
    ·have d2:ev (aJ 17)=_:=hd.1 rfl;clear hd;have z:=aH hS.one 12 (ae (some ⟨gm,om,none⟩) L c1) rfl;refine Ph.yv ?_ rfl;go_simp
    ·clear hd;refine Ph.yv ?_ rfl;go_simp
    ·clear hd;refine Ph.yv ?_ rfl;go_simp
    ·have d4:ev (aJ 19)=_:=hd.1 rfl;have d5:ev (aJ 20)=_:=hd.2.1 rfl;clear hd;refine Ph.yv ?_ rfl;go_simp
    ·have d6:ev (aJ 21)=_:=hd.1 rfl;clear hd;have z:=HG.out w1 hS.below;refine Ph.yv ?_ rfl;go_simp
    ·have d3:ev (aJ 18)=_:=hd.1 rfl;have d7:ev (aJ 22)=_:=hd.2.1 rfl;clear hd;refine Ph.yv ?_ rfl;go_simp
    ·have d8:ev (aJ 23)=_:=hd.1 rfl;clear hd;have z0:=HO.out w1 hS.below 0 _ (by omega) rfl;have z1:=HO.out w1 hS.below 1 _ (by omega) rfl;have z2:=HO.out w1 hS.below 2 _ (by omega) rfl;simp only[Nat.add_zero] at z0;refine Ph.yv ?_ rfl;go_simp
    ·have d9:ev (aJ 24)=_:=hd.1 rfl;clear hd;have hs3:=hS.size;refine Lag.Yields.value (v:=ae (some ⟨w1.heap.size,0,none⟩) 1 1) (w':=w1.alloc (au me.cells 79)) ?_ ⟨⟨_,rfl,hs3,ay _ _,fun h=>absurd ((hS.own (hn 11 (by kernel_rfl))).lt _ h.symm).2 (by omega)⟩,cF ((aw _ _).alloc (ax _) _)⟩;go_simp
    ·have d1:ev (aJ 16)=_:=hd.1 rfl;obtain⟨q,e25,hq0,hq,UZ⟩:=hd.2.1 rfl;clear hd;replace e25:ev (aJ 25)=_:=e25;have hown:=hS.own vg;refine Yields.tP (aJ 16) (aJ 25) 24 rfl (w.heap.size+3) 79 i1 (aO #[.string ⟨#[]⟩,ah ag 0,ah ag 0]) 3 32 Tryz.underlying24 FN OT hy1 hy2 rfl (by decide) (ae pv k cv) k (dS (gK ml (c.take k))) d1 hown ⟨q,0,none⟩ 1 1 me.cells.toList e25 rfl ?_ (by simp[cu]) (by unfold maxLen;omega) (by omega) hS.size ?_
     ·intro n u hn9;have h5:=aH hq n u (by simpa using hn9);have e:(⟨q,0,none⟩:Addr).add n=⟨q,n,none⟩:=by cases n<;>simp[Addr.add]
      rw[e];exact h5
     intro v' w' hown' hgrow _;obtain⟨p',c',rfl⟩:=dF hown';refine⟨⟨p',c',rfl,hown'⟩,.inr ⟨hS.grown (by simp[Ph.upd]) (by simp[Ph.upd]) hgrow (fun q hq=>(hown.lt q hq).1),?_⟩⟩;intro t u ds hj hL hp
     match t,hp with
     |0,hp=>exact hp
     |1,hp=>exact hp
     |2,hp=>exact hp
     |3,hp=>exact hp
     |4,hp=>exact hp
     |5,hp=>exact hp
     |6,hp=>exact hp
     |7,hp=>exact hp
     |8,hp=>exact hp
     |9,hp=>exact hp
     |10,⟨q2,h1,h2,h3,h4⟩=>exact⟨q2,h1,h2,(hgrow.block q2 (ak.1 h3).1 h4).trans h3,h4⟩
     |11,_=>exact(hj rfl).elim
     |12,hp=>exact hp
     |13,_=>rw[hn 13 (by kernel_rfl)] at hL;cases hL
     |t+14,_=>trivial
    ·clear hd;refine Ph.yv ?_ rfl;go_simp
    ·have d12:ev (aJ 27)=_:=hd.1 rfl;have d11:∃p c9,(ev (aJ 26))=ae p (k+1) c9∧w1.ownsRow (w.heap.size+3) 79 3 (ev (aJ 26)) (k+1) ((dS (gK ml (c.take k)))++me.cells.toList):=hd.2.1 rfl;have d1:ev (aJ 16)=_:=hd.2.2.2.2.1 rfl;clear hd;obtain⟨p,c9,h1,h2⟩:=d11;have sw:w1.heap[w.heap.size+1+1]?=some (au (b.cells (ae pv k cv) (ae p2 n2 c2) (ae p3 n3 c3)) 28 (0,0)):=hS.three vg;have z:=aH sw 12 (ae pv k cv) rfl;have f:=cM sw 12;refine Lag.Yields.skip (w':=w1.setCell ⟨w.heap.size+1+1,12,none⟩ (ev (aJ 26))) ?_ ⟨⟨_,rfl,cP _ sw⟩,.inr ⟨(hS.put sw (by simp[Ph.upd]) (ev (aJ 26)) 12),?_⟩⟩
     ·rw[h1];go_simp
     ·intro t u ds hj hL hp
      match t,hp with
      |0,hp=>exact hp
      |1,hp=>exact hp
      |2,hp=>exact hp
      |3,hp=>exact hp
      |4,hp=>exact hp
      |5,hp=>exact hp
      |6,hp=>exact hp
      |7,hp=>exact hp
      |8,hp=>exact hp
      |9,hp=>exact hp
      |10,⟨q2,g1,g2,g3,g4⟩=>exact⟨q2,g1,g2,(bj _ _ _ _ (by rintro rfl;rw[sw] at g3;cases g3)).trans g3,g4⟩
      |11,⟨p2,c8,g1,g2⟩=>exact⟨p2,c8,g1,di g2 sw (by decide)⟩
      |12,hp=>exact hp
      |13,_=>exact(hj rfl).elim
      |t+14,_=>trivial
   case rfin=>
    intro a2 w2 hR;have hS:=hR.s;have e11:∃p c9,(a2.tmps.getD 26 af)=ae p (k+1) c9∧w2.ownsRow (w.heap.size+3) 79 3 (a2.tmps.getD 26 af) (k+1) ((dS (gK ml (c.take k)))++me.cells.toList):=hR.val 11 (by decide);have Yc:∃x,([a2.tmps.getD 27 af,a2.tmps.getD 26 af,a2.tmps.getD 26 af,a2.tmps.getD 15 af,a2.tmps.getD 16 af,a2.tmps.getD 17 af,a2.tmps.getD 18 af,a2.tmps.getD 19 af,a2.tmps.getD 20 af,a2.tmps.getD 21 af,a2.tmps.getD 22 af,a2.tmps.getD 23 af,a2.tmps.getD 24 af,a2.tmps.getD 25 af,a2.tmps.getD 26 af]:List aj)[1]?=some x∧w2.heap[w.heap.size+2]?=some (au (b.cells x (ae p2 n2 c2) (ae p3 n3 c3)) 28 (0,0)):=hR.val 13 (by decide);have k0:a2.tmps.getD 0 af=aO (b.cells (ae (some ⟨gm,om,none⟩) L c1) (ae p2 n2 c2) (ae p3 n3 c3)):=hR.kept (by kernel_rfl);have k1:a2.tmps.getD 1 af=ae (some ⟨g,off,none⟩) N cc:=hR.kept (by kernel_rfl);have k2:a2.tmps.getD 2 af=bp (some ⟨w.heap.size,0,none⟩):=hR.kept (by kernel_rfl);have k4:a2.tmps.getD 4 af=bp (some ⟨w.heap.size+1,0,none⟩):=hR.kept (by kernel_rfl);have k5:a2.tmps.getD 5 af=bp (some ⟨w.heap.size+1+1,0,none⟩):=hR.kept (by kernel_rfl);have k6:a2.tmps.getD 6 af=ah ag (k:Nat):=hR.kept (by kernel_rfl);have k7:a2.tmps.getD 7 af=aO (b.cells (ae (some ⟨gm,om,none⟩) L c1) (ae p2 n2 c2) (ae p3 n3 c3)):=hR.kept (by kernel_rfl);have k8:a2.tmps.getD 8 af=bp (some ⟨w.heap.size+1+1,12,none⟩):=hR.kept (by kernel_rfl);have k3:a2.tmps.getD 3 af=undef:=hR.kept (by kernel_rfl);have k28:a2.tmps.getD 28 af=undef:=hR.kept (by kernel_rfl);have ha:a2=⟨#[a2.tmps.getD 0 af,a2.tmps.getD 1 af,a2.tmps.getD 2 af,a2.tmps.getD 3 af,a2.tmps.getD 4 af,a2.tmps.getD 5 af,a2.tmps.getD 6 af,a2.tmps.getD 7 af,a2.tmps.getD 8 af,a2.tmps.getD 9 af,a2.tmps.getD 10 af,a2.tmps.getD 11 af,a2.tmps.getD 12 af,a2.tmps.getD 13 af,a2.tmps.getD 14 af,a2.tmps.getD 15 af,a2.tmps.getD 16 af,a2.tmps.getD 17 af,a2.tmps.getD 18 af,a2.tmps.getD 19 af,a2.tmps.getD 20 af,a2.tmps.getD 21 af,a2.tmps.getD 22 af,a2.tmps.getD 23 af,a2.tmps.getD 24 af,a2.tmps.getD 25 af,a2.tmps.getD 26 af,a2.tmps.getD 27 af,a2.tmps.getD 28 af],[]⟩:=hR.act;clear hR;obtain⟨p26,c26,e26,Ze⟩:=e11;obtain⟨x,ex,sw⟩:=Yc;have Ya:a2.tmps.getD 26 af=x:=bg ex;rw[e26] at Ya Ze;subst Ya;rw[e26,k0,k1,k2,k4,k5,k6,k7,k8,k3,k28] at ha;generalize a2.tmps.getD=zz at ha;have U9:=ai hS;have HOb:=ai sw;have Fe:=ai Ze;clear e26 ex sw Ze hS k0 k1 k2 k4 k5 k6 k7 k8 k3 k28;subst ha;go_wp2;go_roundw
    case rel=>
     refine⟨k+1,by omega,by simp,ae p26 (k+1) c26,⟨U9.out.one,U9.out.two,fun _=>HOb.out,fun _=>?_,U9.out.below,U9.out.size⟩⟩;have hkc:k<c.length:=by rw[HN.out];exact hlt
     have hci:c[k]=i:=by have:=HIK.out;rw[dg hkc] at this;exact bg this
     have hs:=Qp ml c k hkc (by rw[hci];exact hmi)
     have he:ml[c[k]]'(by rw[hci];exact hmi)=me:=by
      rw[←HME.out];congr 1
     rw[hs,he];exact Fe.out
    case measure=>simp[intOf];omega
  ·obtain rfl:k=N:=by omega
   have HZ:=ai hS.two;have HOb:=ai (hS.three rfl);have Fe:=ai (hS.own rfl);have HB:=ai hS.below;have HSz:=ai hS.size;obtain⟨pv,cv,rfl⟩:=dF Fe.out;clear hS Ym
   go_wp2_with (first
    |(refine wpList_load_row rfl 28 _ rfl _ rfl 28 _ (0,0) _ HOb.out cG rfl (by kernel_rfl) ?_)
    |(refine wpList_store_row rfl 28 _ _ rfl _ _ rfl rfl 28 _ HZ.out (by kernel_rfl) rfl (by simp[cu]) ?_))
   have ho:(wr.setRow (w.heap.size+1) (b.cells (ae pv k cv) (ae p2 n2 c2) (ae p3 n3 c3))).ownsRow (w.heap.size+3) 79 3 (ae pv k cv) k (dS (gK ml (c.take k))):=fY Fe.out fun g hg=>setRow_other (by have:=(Fe.out.lt g hg).1;omega);refine bodyPost_ret (results_cell_row rfl _ _ (w.heap.size+1) 28 _ (0,0) _ rfl (cV HZ.out) cG rfl (by kernel_rfl)) rfl ⟨_,rfl,?_,dA HB.out (by omega)⟩;have e:c.take k=c:=List.take_of_length_le (by rw[HN.out];exact ax _);rw[e] at ho;refine Reads.iW ho (by omega) ?_;rw[rW,(za ml c fun i hi=>by rw[HL.out];exact HC.out i hi).2.1,HN.out,Nat.mul_comm]
theorem Ed:∀ml:List Mn,gK ml (aT ml.length)=ml
 |[]=>rfl
 |m::r=>by
  unfold gK;rw[gi,List.range_succ_eq_map,List.filterMap_cons,List.filterMap_map];simp only[List.getElem?_cons_zero];have:=Ed r;unfold gK at this
  congr 1
theorem SY(ml:List Mn)(m:Nat):(gK ml (bS ml.length m)).Sublist ml:=by
 have h:(gK ml (bS ml.length m)).Sublist (gK ml (aT ml.length)):=by
  unfold gK bS;exact List.Sublist.filterMap _ List.filter_sublist
 rwa [Ed] at h
theorem GF{l:List Mn}:(∀(i k:Nat) (hi:i<l.length) (hk:k<l.length),i<k→l[i].name≠l[k].name)↔l.Pairwise fun a b=>a.name≠b.name:=(List.pairwise_iff_getElem (R:=fun(a b:Mn)=>a.name≠b.name) (l:=l)).symm
theorem xu{ml:List Mn}(hm:mR ml)(m:Nat):mR (gK ml (bS ml.length m)):=by
 have h:=SY ml m;exact⟨fun x hx=>hm.mem x (h.subset hx),GF.2 ((GF.1 hm.apart).sublist h),aN h.length_le hm.len⟩
theorem SZ(ml:List Mn)(m:Nat):(gK ml (bS ml.length m)).length=(cZ ml.length m).length:=by
 rw[(za ml (bS ml.length m) fun i hi=>pH hi).2.1];unfold cZ;rw[dz]
def lO(b:BB)(ml:List Mn)(pl:List Int)(m:Nat):Int:=kh (qW b (aX b (gK ml (bS ml.length m)) [] []) (bE pl)) (aX b (gK ml (bS ml.length m)) [] []).length
theorem xC{b:BB}(hb:b.Ok){ml:List Mn}(hm:mR ml)(pl:List Int)(m:Nat):lO b ml pl m=1↔iC b (aX b ml [] []) (bE pl) ml.length m=true:=by
 unfold lO;rw[zf b (lW hb (xu hm m) []),Qo hb hm]
structure Cr9(b:BB)(ml:List Mn)(pl L:List Int)(f:Bool):Prop where
 c0:(!(f==(lO b ml pl 0==1)))=false
 call:(!((kh (qW b (aX b ml [] []) (bE pl)) (aX b ml [] []).length==1)==(f&&((L.length:Int)==(ml.length:Int)))))=false
 cm:∀m,m<2 ^ ml.length→lO b ml pl m=1→f=true∧(cZ ml.length m).length≤L.length∧((cZ ml.length m).length=L.length→en (cZ ml.length m) L=false)
 cn:f=false→L=[]
 cs:f=true→∃m,m<2 ^ ml.length∧L=cZ ml.length m∧lO b ml pl m=1
 adP:lR (ml.length:Int) L=0
 len:L.length≤3
theorem cr9{b:BB}(hb:b.Ok){ml:List Mn}(hm:mR ml)(pl:List Int):Cr9 b ml pl (eA b (aX b ml [] []) (bE pl) ml.length (2 ^ ml.length)).1 (eA b (aX b ml [] []) (bE pl) ml.length (2 ^ ml.length)).2:=by
 obtain⟨h1,h2,h3,h4,h5⟩:=Uc hb hm (bE pl);have hl:=hm.len;generalize eA b (aX b ml [] []) (bE pl) ml.length (2 ^ ml.length)=r at *;obtain⟨L,f⟩:=r;simp only[] at h1 h2 h3 h4 h5 ⊢
 have e:∀m,(lO b ml pl m==1)=iC b (aX b ml [] []) (bE pl) ml.length m:=fun m=>by
  rw[Bool.eq_iff_iff,beq_iff_eq];exact xC hb hm pl m
 refine⟨?_,?_,fun m h hk=>h3 m h ((xC hb hm pl m).1 hk),h4,fun h=>?_,?_,?_⟩
 ·rw[e,h1];simp
 ·have e2:(kh (qW b (aX b ml [] []) (bE pl)) (aX b ml [] []).length==1)=b.sure (aX b ml [] []) (bE pl):=by
   rw[Bool.eq_iff_iff,beq_iff_eq];exact zf b (lW hb hm []) _
  have e3:((L.length:Int)==(ml.length:Int))=decide (L.length=ml.length):=by
   rw[Bool.eq_iff_iff,beq_iff_eq,decide_eq_true_eq];omega
  rw[e2,e3,h2];simp
 ·obtain⟨m,g1,g2,g3⟩:=h5 h;exact⟨m,g1,g2,(xC hb hm pl m).2 g3⟩
 ·cases f with
  |false=>rw[h4 rfl];rfl
  |true=>obtain⟨m,g1,g2,g3⟩:=h5 rfl;rw[g2];exact NI _ _ hl
 ·cases f with
  |false=>rw[h4 rfl];simp
  |true=>obtain⟨m,g1,g2,g3⟩:=h5 rfl;rw[g2];have:=iw ml.length m;unfold cZ;rw[dz];omega
theorem S7(c:List Nat):(c.map fun(i:Nat)=>(i:Int)).map (aG ag)=c.map fun i=>aG ag (i:Nat):=by rw[List.map_map];rfl
theorem Ap(b:BB)(p1 pc p2 p3:Option Addr)(c1 cc n2 c2 n3 c3:Nat)(ml:List Mn)(L:List Int)(m:Nat)(hm:mR ml)(hL:L=cZ ml.length m)(w:ar)(hr:Reads w (ae p1 ml.length c1) ml.length (dS ml))(hx:Reads w (ae pc L.length cc) L.length (L.map (aG ag))) :
  Calls aq 48 #[aO (b.cells (ae p1 ml.length c1) (ae p2 n2 c2) (ae p3 n3 c3)),ae pc L.length cc] w fun e w'=>∃v,e=aC (aO (b.cells v (ae p2 n2 c2) (ae p3 n3 c3)))∧Reads w' v (gK ml (bS ml.length m)).length (dS (gK ml (bS ml.length m)))∧az w.heap.size w w':=by
 have h1:=hm.len;have h2:=iw ml.length m;have hlen:L.length=(bS ml.length m).length:=by rw[hL];unfold cZ;rw[dz]
 have hmap:L.map (aG ag)=(bS ml.length m).map fun i=>aG ag (i:Nat):=by rw[hL];unfold cZ;exact S7 _
 rw[hlen,hmap] at hx;rw[SZ,←hL,hlen];exact S1 b p1 pc p2 p3 c1 cc n2 c2 n3 c3 ml (bS ml.length m) h1 (by omega) (fun i hi=>pH hi) w hr hx
theorem Ao{b:BB}(hb:b.Ok){ml:List Mn}(hm:mR ml){pl:List Int}(hp:fj b pl)(m:Nat){v lv:aj}{w:ar}(hL:Laid w)(hr:Reads w v (gK ml (bS ml.length m)).length (dS (gK ml (bS ml.length m))))(hl:Reads w lv pl.length (pl.map (aG ag))) :
  Calls aq 44 #[aO (b.cells v (ae none 0 0) (ae none 0 0)),lv] w fun e w'=>e=aC (cA #[ah ag (lO b ml pl m),ah ag 0])∧az w.heap.size w w':=
 Db b v _ _ (gK ml (bS ml.length m)) [] [] w hL ⟨hb,xu hm m,fj.nil hb,⟨by simp,by simp⟩,hr,cF ⟨rfl,rfl,rfl⟩,cF ⟨rfl,rfl,rfl⟩⟩ (lW hb (xu hm m) []) pl hp lv hl
theorem M3{b:BB}(hb:b.Ok){ml:List Mn}(hm:mR ml){pl:List Int}(hp:fj b pl)(m:Nat)(hk:lO b ml pl m=1){v lv:aj}{w:ar}(hL:Laid w)(hr:Reads w v (gK ml (bS ml.length m)).length (dS (gK ml (bS ml.length m))))(hl:Reads w lv pl.length (pl.map (aG ag))) :
  Calls aq 44 #[aO (b.cells v (ae none 0 0) (ae none 0 0)),lv] w fun e w'=>e=aC (cA #[ah ag 1,ah ag 0])∧az w.heap.size w w':=by
 have h:=Ao hb hm hp m hL hr hl;rwa [hk] at h
theorem G9(k m:Nat)(hm:m<2 ^ k):cZ (k+1) m=cZ k m∧cZ (k+1) (m+2 ^ k)=cZ k m++[(k:Int)]:=by
 unfold cZ;rw[mN,mN];have h1:m.testBit k=false:=Nat.testBit_lt_two_pow hm;have h2:(m+2 ^ k).testBit k=true:=by rw[Nat.add_comm,Nat.testBit_two_pow_add_eq,h1];rfl
 have h3:bS k (m+2 ^ k)=bS k m:=by
  unfold bS;refine List.filter_congr fun i hi=>?_;have:=bt.1 hi;rw[Nat.add_comm,Nat.testBit_two_pow_add_gt this]
 rw[h1,h2,h3];simp
end Go.Proofs.YtffladgmkiimjaaGreatDoor
namespace Go.Proofs.YtffladgmkiimjaaGreatDoor
open Go.RowKit Go.Lag
open Go.Conc
theorem yS(w:ar):Reads w (ae none 0 0) 0 []:=cF ⟨rfl,rfl,rfl⟩
theorem O9{b:BB}{ml:List Mn}{M:aj}{W:ar}(h:b.Ok)(hm:mR ml)(hr:Reads W M ml.length (dS ml)):cI b M (ae none 0 0) (ae none 0 0) ml [] [] W:=
 ⟨h,hm,fj.nil h,⟨by simp,by simp⟩,hr,yS W,yS W⟩
theorem MH{b:BB}{pl:List Int}{w:ar}{B:Nat}{v:aj}(hpl:fj b pl)(h:w.ownsRow B 3 1 v pl.length (pl.map (aG ag)))(hc:b.dc≤3):Reads w v pl.length (pl.map (aG ag)):=
 Reads.iW h (by have:=hpl.len;omega) (by simp)
theorem VE{B e n size:Nat}{xs:List aj}{V w w1:ar}{u:aj}(hB:V.heap.size≤B)(hown:w.ownsRow B e size u n xs)(ho:Old V w)(hgrow:w.grownBy w1 u.ownBlock):Old V w1:=by
 have hl:=fun g hg=>(hown.lt g hg).1;exact⟨hgrow.os.trans ho.os,hgrow.output.trans ho.output,aN ho.size hgrow.size,fun k hk=>(hgrow.block k (Nat.lt_of_lt_of_le hk ho.size) fun e=>by have:=hl k e.symm;omega).trans (ho.block k hk)⟩
theorem Vq(x:Int)(k:Nat)(w:ar):(Go.binOp .shr 40 (ah .u16 x) (ah ag (k:Int))).run aq w=.ok (ah .u16 (x.fdiv (2 ^ (min k 16)))) w:=by
 have h:¬(k:Int)<0:=by omega
 show(Op.shift .shr .u16 x ag (k:Int)).run aq w=_;unfold Op.shift;rw[if_neg h];rfl
def adS(y:Int)(k:Nat):Int:=IntKind.u16.wrap ((BitVec.ofInt 16 (y.fdiv (2 ^ (min k 16))) &&& BitVec.ofInt 16 1).toNat:Int)
theorem aar(b:BB)(p1 p2 p3:Option Addr)(c1 n2 c2 n3 c3:Nat)(ml:List Mn)(x y:Int){W0:ar}(hL:Laid W0)(hv:Reads W0 (ae p1 ml.length c1) ml.length (dS ml)):iV aq 8 #[aO (b.cells (ae p1 ml.length c1) (ae p2 n2 c2) (ae p3 n3 c3)),ah .u16 x,ah .u16 y] W0 fun v W'=>v=aF true∧Old W0 W':=by
 refine kx quiet Tryz.func8 rfl ?hR ?body
 case hR=>
  rintro v W' τ d ⟨h1,h2⟩;exact⟨h1,vM h2⟩
 have hF:=kY (args:=#[aO (b.cells (ae p1 ml.length c1) (ae p2 n2 c2) (ae p3 n3 c3)),ah .u16 x,ah .u16 y]) (n:=165) (by simp) [(2,ah .u16 y),(1,ah .u16 x),(0,aO (b.cells (ae p1 ml.length c1) (ae p2 n2 c2) (ae p3 n3 c3)))] ⟨nw rfl,nw rfl,nw rfl,trivial⟩;rw[show Tryz.f8.ntmps=165 from rfl];generalize (⟨#[aO (b.cells (ae p1 ml.length c1) (ae p2 n2 c2) (ae p3 n3 c3)),ah .u16 x,ah .u16 y]++aV (165-(#[aO (b.cells (ae p1 ml.length c1) (ae p2 n2 c2) (ae p3 n3 c3)),ah .u16 x,ah .u16 y]:Array aj).size) af,[]⟩:Act)=a at *;refine(fun h:∀W,Old W0 W→nt aq _ (Gx aq Tryz.f8 fun v W'=>v=aF true∧Old W0 W') a W=>h W0 (Old.refl W0)) ?_;intro W h0;refine kG quiet (N:=2) rfl ?_;refine oA quiet ⟨[],[],[],[]⟩ (some 3) (fun B=>pv B 0) (b.cells (ae p1 ml.length c1) (ae p2 n2 c2) (ae p3 n3 c3)) 28 hF hF ?_;intro B3 W a G3 ho K3 hF;have TP:=aN h0.size G3;replace h0:=h0.trans ho;clear ho;rename ar=>W3;have h3:=Old.refl W3;refine dh quiet 1 1 0 ⟨[],[],[],[]⟩ [(6,aF false)] hF hF trivial trivial ?_;intro a W ho hF;replace h3:=h3.trans ho;clear ho;refine kF quiet a7 ?_;refine kG quiet (N:=4) rfl ?_;refine dh quiet 0 1 3 ⟨[],[],[],[]⟩ [(20,bp (some ⟨B3,13,none⟩))] hF hF trivial trivial ?_;intro a W ho hF;replace h3:=h3.trans ho;clear ho;refine Gw quiet ⟨[],[],[],[]⟩ (b.cells (ae p1 ml.length c1) (ae p2 n2 c2) (ae p3 n3 c3)) (#[ah ag b.room,ah ag b.depth,ah ag b.least,ah ag b.minutes,ah ag b.bM,ah ag b.fD,ah ag b.dc,ah ag b.fC,ah ag b.ll,ah ag b.lm,ah ag b.pl,ah ag b.pm,ae p1 ml.length c1,ae none 0 0,ae p3 n3 c3]) [0] hF hF (bJ K3 h3) ?_;intro W a up K3 hF;replace h0:=up _ (h0.trans h3) TP;clear up;rename ar=>Uu;have m9:=Old.refl Uu;refine dh quiet 2 1 1 ⟨[],[],[],[]⟩ [(21,bp (some ⟨B3,14,none⟩))] hF hF trivial trivial ?_;intro a W ho hF;replace m9:=m9.trans ho;clear ho;refine Gw quiet ⟨[],[],[],[]⟩ (#[ah ag b.room,ah ag b.depth,ah ag b.least,ah ag b.minutes,ah ag b.bM,ah ag b.fD,ah ag b.dc,ah ag b.fC,ah ag b.ll,ah ag b.lm,ah ag b.pl,ah ag b.pm,ae p1 ml.length c1,ae none 0 0,ae p3 n3 c3]) (#[ah ag b.room,ah ag b.depth,ah ag b.least,ah ag b.minutes,ah ag b.bM,ah ag b.fD,ah ag b.dc,ah ag b.fC,ah ag b.ll,ah ag b.lm,ah ag b.pl,ah ag b.pm,ae p1 ml.length c1,ae none 0 0,ae none 0 0]) [0] hF hF (bJ K3 m9) ?_;intro W a up K3 hF;replace h0:=up _ (h0.trans m9) TP;clear up;rename ar=>Ut;have dp:=Old.refl Ut;refine kF quiet a7 ?_;refine j7 quiet ?_;refine JF quiet (dO a7) ⟨[],[(1,aF (K8 b ml [] []))],[(B3,#[ah ag b.room,ah ag b.depth,ah ag b.least,ah ag b.minutes,ah ag b.bM,ah ag b.fD,ah ag b.dc,ah ag b.fC,ah ag b.ll,ah ag b.lm,ah ag b.pl,ah ag b.pm,ae p1 ml.length c1,ae none 0 0,ae none 0 0])],[]⟩ [(24,aF (!(K8 b ml [] [])))] hF hF ⟨fun w1 hS=>⟨_,_,bJ K3 (dp.trans hS)⟩,trivial⟩ ⟨fun w1 hS _=>gc (args:=#[aO #[ah ag b.room,ah ag b.depth,ah ag b.least,ah ag b.minutes,ah ag b.bM,ah ag b.fD,ah ag b.dc,ah ag b.fC,ah ag b.ll,ah ag b.lm,ah ag b.pl,ah ag b.pm,ae p1 ml.length c1,ae none 0 0,ae none 0 0]]) (WQ b _ _ _ _ _ _ ml [] [] w1 (hv.old (h0.trans (dp.trans hS))) (yS _) (yS _)),trivial⟩ ?_;intro a W ho hF;replace dp:=dp.trans ho;clear ho;refine Ac quiet (t:=(!(K8 b ml [] []))) (hF.g 0 rfl) (fun Ct=>?_) (fun Ct=>?_)
 ·skip
  replace hF:=hF.tl;replace hF:=hF.del 6;simp only[nS,jE,cR,reduceIte] at hF;refine ckX quiet (dO a7) 0 ⟨[],[(0,aF true)],[],[]⟩ rfl [(6,aF true)] hF hF trivial ⟨fun w1 hS _=>gv (tN (hL.old (h0.trans (dp.trans hS)))) (by kernel_rfl),trivial⟩ ?_;intro a W ho hF;replace dp:=dp.trans ho;clear ho;exact kO quiet (dO a7) fun τ d=>wp_ret ⟨hF.defers,_,bU rfl _ _ _,(hF.g 0 rfl),mW τ d (h0.trans dp)⟩
 ·skip
  replace hF:=hF.tl;have Tv:K8 b ml [] []=true:=by simpa using Ct
  obtain⟨cN,xG,-,-⟩:=aaf Tv;show nt aq Code.skip _ _ _;refine oq quiet (dO a7) fun τ0 δ0=>?_;have ho:=kg W τ0 δ0;replace dp:=dp.trans ho;clear ho;generalize dx W τ0 δ0=W2 at *;rename ar=>W;show nt aq _ _ _ _;refine kG quiet (N:=4) rfl ?_;refine dh quiet 0 2 2 ⟨[],[],[(B3,#[ah ag b.room,ah ag b.depth,ah ag b.least,ah ag b.minutes,ah ag b.bM,ah ag b.fD,ah ag b.dc,ah ag b.fC,ah ag b.ll,ah ag b.lm,ah ag b.pl,ah ag b.pm,ae p1 ml.length c1,ae none 0 0,ae none 0 0])],[]⟩ [(26,aO #[ah ag b.room,ah ag b.depth,ah ag b.least,ah ag b.minutes,ah ag b.bM,ah ag b.fD,ah ag b.dc,ah ag b.fC,ah ag b.ll,ah ag b.lm,ah ag b.pl,ah ag b.pm,ae p1 ml.length c1,ae none 0 0,ae none 0 0]),(27,ah .u16 x)] hF hF ⟨fun w1 hS=>⟨_,_,bJ K3 (dp.trans hS)⟩,trivial⟩ trivial ?_;intro a W ho hF;replace dp:=dp.trans ho;clear ho;refine rJ quiet ⟨[],[],[],[]⟩ (some 28) (f:=31) (args:=#[aO #[ah ag b.room,ah ag b.depth,ah ag b.least,ah ag b.minutes,ah ag b.bM,ah ag b.fD,ah ag b.dc,ah ag b.fC,ah ag b.ll,ah ag b.lm,ah ag b.pl,ah ag b.pm,ae p1 ml.length c1,ae none 0 0,ae none 0 0],ah .u16 x]) hF hF (fun w1 hS=>Kh b cN _ _ _ _ _ _ _ _ _ x w1) ?_;rintro w1 _ W hS ⟨v28,pl,rfl,hpl,vO,hb⟩;refine⟨_,rfl,fun a hF=>?_⟩;have ho:=hS.trans (Old.of_below hb);replace dp:=dp.trans ho;clear ho;replace h0:=h0.trans dp;rename ar=>W28;have C0:=Old.refl W28;replace vO:=MH hpl vO cN.dc.2;refine dh quiet 3 1 0 ⟨[],[],[],[]⟩ [(7,v28)] hF hF trivial trivial ?_;intro a W ho hF;replace C0:=C0.trans ho;clear ho;refine kF quiet a7 ?_;replace h0:=h0.trans C0;replace dp:=dp.trans C0;rename ar=>WC;have hC:=Old.refl WC;have H9:=cr9 cN xG pl;have HC:∀w9,Old WC w9→_:=fun w9 h9=>Pv b (ae p1 ml.length c1) (ae none 0 0) (ae none 0 0) ml [] [] w9 (hL.old (h0.trans h9)) (O9 cN xG (hv.old (h0.trans h9))) (lW cN xG []) pl hpl v28 (vO.old (C0.trans h9));have HG:∀w9,Old WC w9→_:=fun w9 h9=>Db b (ae p1 ml.length c1) (ae none 0 0) (ae none 0 0) ml [] [] w9 (hL.old (h0.trans h9)) (O9 cN xG (hv.old (h0.trans h9))) (lW cN xG []) pl hpl v28 (vO.old (C0.trans h9));generalize eA b (aX b ml [] []) (bE pl) ml.length (2 ^ ml.length)=r9 at *;obtain⟨L,f⟩:=r9;simp only[] at H9 HC;have H9a:=H9.call;generalize kh (qW b (aX b ml [] []) (bE pl)) (aX b ml [] []).length=KG at *;refine kG quiet (N:=10) rfl ?_;refine dh quiet 0 2 8 ⟨[],[],[(B3,#[ah ag b.room,ah ag b.depth,ah ag b.least,ah ag b.minutes,ah ag b.bM,ah ag b.fD,ah ag b.dc,ah ag b.fC,ah ag b.ll,ah ag b.lm,ah ag b.pl,ah ag b.pm,ae p1 ml.length c1,ae none 0 0,ae none 0 0])],[]⟩ [(30,aO #[ah ag b.room,ah ag b.depth,ah ag b.least,ah ag b.minutes,ah ag b.bM,ah ag b.fD,ah ag b.dc,ah ag b.fC,ah ag b.ll,ah ag b.lm,ah ag b.pl,ah ag b.pm,ae p1 ml.length c1,ae none 0 0,ae none 0 0]),(31,v28)] hF hF ⟨fun w1 hS=>⟨_,_,bJ K3 (dp.trans (hC.trans hS))⟩,trivial⟩ trivial ?_;intro a W ho hF;replace hC:=hC.trans ho;clear ho;refine rJ quiet ⟨[],[],[],[]⟩ (some 32) (f:=27) (args:=#[aO #[ah ag b.room,ah ag b.depth,ah ag b.least,ah ag b.minutes,ah ag b.bM,ah ag b.fD,ah ag b.dc,ah ag b.fC,ah ag b.ll,ah ag b.lm,ah ag b.pl,ah ag b.pm,ae p1 ml.length c1,ae none 0 0,ae none 0 0],v28]) hF hF (fun w1 hS=>HC w1 (hC.trans hS)) ?_;rintro w1 _ W hS ⟨v32,rfl,XJ,hb⟩;obtain⟨pL,cL,rfl,-⟩:=aR XJ;refine⟨_,rfl,fun a hF=>?_⟩;have ho:=hS.trans (Old.of_below hb);replace hC:=hC.trans ho;clear ho;replace h0:=h0.trans hC;replace dp:=dp.trans hC;replace C0:=C0.trans hC;rename ar=>W32;have yn:=Old.refl W32;refine dh quiet 3 7 0 ⟨[],[],[],[]⟩ [(8,ae pL L.length cL),(9,aF f),(10,ah ag 0)] hF hF trivial trivial ?_;intro a W ho hF;replace yn:=yn.trans ho;clear ho;refine kF quiet a7 ?_;refine JF quiet a7 ⟨[],[(2,cA #[ah ag KG,ah ag 0])],[(B3,#[ah ag b.room,ah ag b.depth,ah ag b.least,ah ag b.minutes,ah ag b.bM,ah ag b.fD,ah ag b.dc,ah ag b.fC,ah ag b.ll,ah ag b.lm,ah ag b.pl,ah ag b.pm,ae p1 ml.length c1,ae none 0 0,ae none 0 0])],[]⟩ [(11,ah ag KG),(12,ah ag 0)] hF hF ⟨fun w1 hS=>⟨_,_,bJ K3 (dp.trans (yn.trans hS))⟩,trivial⟩ ⟨fun w1 hS _=>gc (HG w1 (hC.trans (yn.trans hS))),trivial⟩ ?_;intro a W ho hF;replace yn:=yn.trans ho;clear ho;refine kG quiet (N:=9) rfl ?_;refine dh quiet 0 1 8 ⟨[],[],[(B3,#[ah ag b.room,ah ag b.depth,ah ag b.least,ah ag b.minutes,ah ag b.bM,ah ag b.fD,ah ag b.dc,ah ag b.fC,ah ag b.ll,ah ag b.lm,ah ag b.pl,ah ag b.pm,ae p1 ml.length c1,ae none 0 0,ae none 0 0])],[]⟩ [(43,aO #[ah ag b.room,ah ag b.depth,ah ag b.least,ah ag b.minutes,ah ag b.bM,ah ag b.fD,ah ag b.dc,ah ag b.fC,ah ag b.ll,ah ag b.lm,ah ag b.pl,ah ag b.pm,ae p1 ml.length c1,ae none 0 0,ae none 0 0])] hF hF ⟨fun w1 hS=>⟨_,_,bJ K3 (dp.trans (yn.trans hS))⟩,trivial⟩ trivial ?_;intro a W ho hF;replace yn:=yn.trans ho;clear ho;refine rJ quiet ⟨[],[],[],[]⟩ (some 44) (f:=48) (args:=#[aO #[ah ag b.room,ah ag b.depth,ah ag b.least,ah ag b.minutes,ah ag b.bM,ah ag b.fD,ah ag b.dc,ah ag b.fC,ah ag b.ll,ah ag b.lm,ah ag b.pl,ah ag b.pm,ae p1 ml.length c1,ae none 0 0,ae none 0 0],ae none 0 0]) hF hF (fun w1 hS=>Ap b _ none _ _ _ 0 _ _ _ _ ml [] 0 xG (by unfold cZ;rw[G7];rfl) w1 (hv.old (h0.trans (yn.trans hS))) (yS _)) ?_;rintro w1 _ W hS ⟨v44,rfl,afH,hb⟩;refine⟨_,rfl,fun a hF=>?_⟩;have ho:=hS.trans (Old.of_below hb);replace yn:=yn.trans ho;clear ho;replace h0:=h0.trans yn;replace dp:=dp.trans yn;replace C0:=C0.trans yn;replace hC:=hC.trans yn;rename ar=>W44;have xL:=Old.refl W44;refine dh quiet 2 7 0 ⟨[],[(3,cA #[ah ag (lO b ml pl 0),ah ag 0])],[],[]⟩ [(13,ah ag (lO b ml pl 0)),(14,ah ag 0)] hF hF trivial ⟨fun w1 hS _=>gc (Ao cN xG hpl 0 (hL.old (h0.trans (xL.trans hS))) (afH.old (xL.trans hS)) (vO.old (C0.trans (xL.trans hS)))),trivial⟩ ?_;intro a W ho hF;replace xL:=xL.trans ho;clear ho;refine kF quiet a7 ?_;have HCl:∀w9,Old W32 w9→_:=fun w9 h9=>NH pL cL L (by have:=H9.len;omega) (ml.length:Int) (by have:=xG.len;omega) w9 (XJ.old h9);rw[H9.adP] at HCl;refine j7 quiet ?_;refine JF quiet (dO a7) ⟨[(51,false),(55,false),(59,false),(67,false),(73,false)],[(15,ah ag 0),(22,aF false),(36,aF false)],[(B3,#[ah ag b.room,ah ag b.depth,ah ag b.least,ah ag b.minutes,ah ag b.bM,ah ag b.fD,ah ag b.dc,ah ag b.fC,ah ag b.ll,ah ag b.lm,ah ag b.pl,ah ag b.pm,ae p1 ml.length c1,ae none 0 0,ae none 0 0])],[]⟩ [(86,aF false)] hF hF ⟨fun w1 hS=>⟨_,_,bJ K3 (dp.trans (xL.trans hS))⟩,trivial⟩ ⟨fun w1 hS _=>gc (HCl w1 (yn.trans (xL.trans hS))),fun w1 hS _=>ge (congrArg Value.bool (H9.c0)),fun w1 hS _=>ge (congrArg Value.bool (H9a)),trivial⟩ ?_;intro a W ho hF;replace xL:=xL.trans ho;clear ho;refine ot quiet (t:=false) (hF.g 0 rfl) ?_;show nt aq _ _ _ _;replace hF:=hF.tl;show nt aq Code.skip _ _ _;refine oq quiet (dO a7) fun τ0 δ0=>?_;have ho:=kg W τ0 δ0;replace xL:=xL.trans ho;clear ho;generalize dx W τ0 δ0=W2 at *;rename ar=>W;show nt aq _ _ _ _;refine JF quiet a7 ⟨[],[],[],[]⟩ [(15,ae none 0 0)] hF hF trivial trivial ?_;intro a W ho hF;replace xL:=xL.trans ho;clear ho;refine j7 quiet ?_;refine JF quiet (dO a7) ⟨[],[],[],[]⟩ [(16,ah ag 0)] hF hF trivial trivial ?_;intro a W ho hF;replace xL:=xL.trans ho;clear ho;refine kO quiet (dO a7) fun τ1 δ1=>?_;have ho:=kg W τ1 δ1;replace xL:=xL.trans ho;clear ho;generalize dx W τ1 δ1=W2 at *;rename ar=>W;refine wp_block ?_;replace h0:=h0.trans xL;replace dp:=dp.trans xL;replace C0:=C0.trans xL;replace hC:=hC.trans xL;replace yn:=yn.trans xL;rename ar=>WB;have hB:=Old.refl WB;obtain⟨i0,hi,hz0,hz1,hz2⟩:=info_parts info3;replace hF:=(((((((((hF.del 44).del 43).del 32).del 31).del 30).del 28).del 27).del 26).del 21).del 20;simp only[nS,jE,cR,reduceIte] at hF;refine wp_loop (fun a W=>∃(k m:Nat) (v15:aj),k≤ml.length∧m<2 ^ k∧W.ownsRow WB.heap.size 3 1 v15 (cZ k m).length ((cZ k m).map (aG ag))∧jg 165 a [(16,ah ag (k:Int)),(15,v15),(14,ah ag 0),(13,ah ag (lO b ml pl 0)),(12,ah ag 0),(11,ah ag KG),(10,ah ag 0),(9,aF f),(8,ae pL L.length cL),(7,v28),(6,aF false),(3,bp (some ⟨B3,0,none⟩)),(2,ah .u16 y),(1,ah .u16 x),(0,aO (b.cells (ae p1 ml.length c1) (ae p2 n2 c2) (ae p3 n3 c3)))]∧Old WB W) (fun a _=>ml.length-(intOf (a.eval (aJ 16))).toNat) ⟨0,0,ae none 0 0,Nat.zero_le _,by decide,dL _ _ _ _,⟨hF.size,hF.defers,hF.base⟩,hB⟩ ?_;clear hF hB;rintro a W ⟨k,m,v15,hk,hm,hown,hF,hB⟩;have acS:a.eval (aJ 16)=ah ag (k:Int):=(hF.g 0 rfl)
  have alq:=xG.len;refine wp_seq ?_;refine kJ ⟨[],[],[(B3,#[ah ag b.room,ah ag b.depth,ah ag b.least,ah ag b.minutes,ah ag b.bM,ah ag b.fD,ah ag b.dc,ah ag b.fC,ah ag b.ll,ah ag b.lm,ah ag b.pl,ah ag b.pm,ae p1 ml.length c1,ae none 0 0,ae none 0 0])],[]⟩ [(91,aF (decide ((k:Int)<(ml.length:Int))))] hF hF ⟨fun w1 hS=>⟨_,_,bJ K3 (dp.trans (hB.trans (Old.of_below hS)))⟩,trivial⟩ trivial ?_;intro a W ho hF;have hb:=ho;replace ho:=Old.of_below ho;replace hB:=hB.trans ho;replace hown:=cX hown hb;clear ho hb;refine wp_cond_split (t:=(decide ((k:Int)<(ml.length:Int)))) (hF.g 0 rfl) (fun Zz=>?_) (fun Zz=>?_)
  ·skip
   replace hF:=hF.tl;have hlt:k<ml.length:=by simpa using Zz
   refine wp_skip ?_;show Code.wp aq _ _ _ _;refine wp_seq ?_;refine wp_block ?_;refine kJ ⟨[],[(2,ah .u16 (y.fdiv (2 ^ (min k 16))))],[],[]⟩ [(98,aF ((adS y k)==1))] hF hF trivial ⟨fun w1 hS _=>gs (Go.binOp .shr 40 (ah .u16 y) (ah ag (k:Int))) (Vq y k w1) (by kernel_rfl),trivial⟩ ?_;intro a W ho hF;have hb:=ho;replace ho:=Old.of_below ho;replace hB:=hB.trans ho;replace hown:=cX hown hb;clear ho hb;refine wp_cond_split (t:=((adS y k)==1)) (hF.g 0 rfl) (fun agq=>?_) (fun agq=>?_)
   ·skip
    replace hF:=hF.tl;have vP:=hF;replace hF:=hF.del 15;simp only[nS,jE,cR,reduceIte] at hF;refine Yf (N:=5) rfl ?_;refine CP 0 2 3 ⟨[],[],[],[]⟩ [(99,v15),(100,ah ag (k:Int))] vP hF trivial trivial ?_;intro a W ho hF;have hb:=ho;replace ho:=Old.of_below ho;replace hB:=hB.trans ho;replace hown:=cX hown hb;clear ho hb;refine abU ⟨[],[],[],[]⟩ (some 101) (fun B=>ae (some ⟨B,0,none⟩) 1 1) (#[ah ag (k:Int)]) 3 hF hF ?_;intro ah6 W a N7 ho ahw hF;have agV:=aN (h0.trans hB).size N7;have abd:=aN (dp.trans hB).size N7;have aeQ:=aN (C0.trans hB).size N7;have agT:=aN (hC.trans hB).size N7;have aeP:=aN (yn.trans hB).size N7;have aeO:=aN (xL.trans hB).size N7;have agU:=aN hB.size N7;have hb:=ho;replace ho:=Old.of_below ho;replace hB:=hB.trans ho;replace hown:=cX hown hb;clear ho hb;replace h0:=h0.trans hB;replace dp:=dp.trans hB;replace C0:=C0.trans hB;replace hC:=hC.trans hB;replace yn:=yn.trans hB;replace xL:=xL.trans hB;rename ar=>adW;have adq:=Old.refl adW;refine abO ⟨[],[],[],[]⟩ (some 102) (R:=fun v w=>w.ownsRow WB.heap.size 3 1 v ((cZ k m).length+1) ((cZ k m).map (aG ag)++[ah ag (k:Int)])∧adW.grownBy w v15.ownBlock) hF hF (by kernel_rfl) (Yields.tP (aJ 99) (aJ 101) 25 (by kernel_rfl) WB.heap.size 3 i0 (ah ag 0) 1 8 Tryz.underlying25 hi hz0 hz1 hz2 rfl (by decide) v15 _ _ (by kernel_rfl) hown ⟨ah6,0,none⟩ 1 1 [ah ag (k:Int)] (by kernel_rfl) rfl (fun j u hj=>by match j,hj with|0,hj=>(simp at hj;subst hj;exact aH ahw 0 _ rfl)) (fun u hu=>by simp at hu;subst hu;rfl) (by have:=iw k m;unfold cZ maxLen;rw[dz];omega) (by have:=iw k m;unfold cZ;rw[dz];omega) (hB.trans adq).size fun v' w' h1 h2 _=>⟨h1,h2⟩) ?_;rintro abt W ⟨hown2,hgr⟩ a hF;replace hB:=VE (ax _) hown (hB.trans adq) hgr;replace hown:=hown2;clear hown2 hgr;refine CP 4 1 0 ⟨[],[],[],[]⟩ [(15,abt)] hF hF trivial trivial ?_;intro a W ho hF;have hb:=ho;replace ho:=Old.of_below ho;replace hB:=hB.trans ho;replace hown:=cX hown hb;clear ho hb;refine adv ?_;show Code.wp aq _ _ _ _;have vP:=hF;replace hF:=hF.del 16;simp only[nS,jE,cR,reduceIte] at hF;refine Uf ⟨[],[(1,ah ag ((k:Int)+1))],[],[]⟩ [(16,ah ag ((k:Int)+1))] vP hF trivial ⟨fun w1 hS _=>ge (congrArg (aG ag) (show IntKind.i64.wrap ((k:Int)+1)=((k:Int)+1) by rw[cD];omega)),trivial⟩ ?_;intro a W ho hF;clear vP;have hb:=ho;replace ho:=Old.of_below ho;replace hB:=hB.trans ho;replace hown:=cX hown hb;clear ho hb;refine⟨⟨k+1,m+2 ^ k,abt,by omega,by rw[Nat.pow_succ];omega,by rw[(G9 k m hm).2];simpa using hown,⟨hF.size,hF.defers,(by obtain⟨b16,b15,-,-,-,-,b14,b13,b12,b11,Xc,b9,b8,b7,b6,b3,b2,b1,b0,-⟩:=hF.base;exact⟨b16,b15,b14,b13,b12,b11,Xc,b9,b8,b7,b6,b3,b2,b1,b0,trivial⟩)⟩,hB⟩,?_⟩;rw[show a.eval (aJ 16)=ah ag ((k:Int)+1) from(hF.g 0 rfl)];simp only[acS];simp[intOf];omega
   ·skip
    replace hF:=hF.tl;refine wp_skip ?_;show Code.wp aq _ _ _ _;have vP:=hF;replace hF:=hF.tl;refine Uf ⟨[],[(1,ah ag ((k:Int)+1))],[],[]⟩ [(16,ah ag ((k:Int)+1))] vP hF trivial ⟨fun w1 hS _=>ge (congrArg (aG ag) (show IntKind.i64.wrap ((k:Int)+1)=((k:Int)+1) by rw[cD];omega)),trivial⟩ ?_;intro a W ho hF;clear vP;have hb:=ho;replace ho:=Old.of_below ho;replace hB:=hB.trans ho;replace hown:=cX hown hb;clear ho hb;refine⟨⟨k+1,m,v15,by omega,by rw[Nat.pow_succ];omega,by rw[(G9 k m hm).1];exact hown,⟨hF.size,hF.defers,hF.base⟩,hB⟩,?_⟩;rw[show a.eval (aJ 16)=ah ag ((k:Int)+1) from(hF.g 0 rfl)];simp only[acS];simp[intOf];omega
  ·skip
   replace hF:=hF.tl;refine wp_exit ?_;obtain rfl:k=ml.length:=by simp at Zz;omega
   show nt aq _ _ _ _;obtain⟨pO,cO,rfl⟩:=dF hown;replace h0:=h0.trans hB;replace dp:=dp.trans hB;replace C0:=C0.trans hB;replace hC:=hC.trans hB;replace yn:=yn.trans hB;replace xL:=xL.trans hB;rename ar=>WO;have hO:=Old.refl WO;have hrO:=Reads.iW hown (by have:=iw ml.length m;unfold cZ;rw[dz];omega) (by simp);clear hown;show nt aq _ _ _ _;refine kG quiet (N:=10) rfl ?_;refine dh quiet 0 2 8 ⟨[],[],[(B3,#[ah ag b.room,ah ag b.depth,ah ag b.least,ah ag b.minutes,ah ag b.bM,ah ag b.fD,ah ag b.dc,ah ag b.fC,ah ag b.ll,ah ag b.lm,ah ag b.pl,ah ag b.pm,ae p1 ml.length c1,ae none 0 0,ae none 0 0])],[]⟩ [(104,aO #[ah ag b.room,ah ag b.depth,ah ag b.least,ah ag b.minutes,ah ag b.bM,ah ag b.fD,ah ag b.dc,ah ag b.fC,ah ag b.ll,ah ag b.lm,ah ag b.pl,ah ag b.pm,ae p1 ml.length c1,ae none 0 0,ae none 0 0]),(105,ae pO (cZ ml.length m).length cO)] hF hF ⟨fun w1 hS=>⟨_,_,bJ K3 (dp.trans (hO.trans hS))⟩,trivial⟩ trivial ?_;intro a W ho hF;replace hO:=hO.trans ho;clear ho;refine rJ quiet ⟨[],[],[],[]⟩ (some 106) (f:=48) (args:=#[aO #[ah ag b.room,ah ag b.depth,ah ag b.least,ah ag b.minutes,ah ag b.bM,ah ag b.fD,ah ag b.dc,ah ag b.fC,ah ag b.ll,ah ag b.lm,ah ag b.pl,ah ag b.pm,ae p1 ml.length c1,ae none 0 0,ae none 0 0],ae pO (cZ ml.length m).length cO]) hF hF (fun w1 hS=>Ap b _ pO _ _ _ cO _ _ _ _ ml (cZ ml.length m) m xG rfl w1 (hv.old (h0.trans (hO.trans hS))) (hrO.old (hO.trans hS))) ?_;rintro w1 _ W hS ⟨akj,rfl,acB,hb⟩;refine⟨_,rfl,fun a hF=>?_⟩;have ho:=hS.trans (Old.of_below hb);replace hO:=hO.trans ho;clear ho;replace h0:=h0.trans hO;replace dp:=dp.trans hO;replace C0:=C0.trans hO;replace hC:=hC.trans hO;replace yn:=yn.trans hO;replace xL:=xL.trans hO;replace hB:=hB.trans hO;rename ar=>ahr;have lx:=Old.refl ahr;refine dh quiet 3 7 0 ⟨[],[(4,cA #[ah ag (lO b ml pl m),ah ag 0])],[],[]⟩ [(17,ah ag (lO b ml pl m)),(18,ah ag 0)] hF hF trivial ⟨fun w1 hS _=>gc (Ao cN xG hpl m (hL.old (h0.trans (lx.trans hS))) (acB.old (lx.trans hS)) (vO.old (C0.trans (lx.trans hS)))),trivial⟩ ?_;intro a W ho hF;replace lx:=lx.trans ho;clear ho;refine kF quiet a7 ?_;refine j7 quiet ?_;refine JF quiet (dO a7) ⟨[(113,false)],[(24,aF (en (cZ ml.length m) L))],[],[]⟩ [(139,aF (((lO b ml pl m)==1)&&(((!f)||(decide ((cZ ml.length m).length>(L.length:Int))))||(((cZ ml.length m).length==(L.length:Int))&&(en (cZ ml.length m) L)))))] hF hF trivial ⟨fun w1 hS _=>gc (args:=#[ae pO (cZ ml.length m).length cO,ae pL L.length cL]) (vo (cZ ml.length m) L _ _ w1 (hrO.old (hO.trans (lx.trans hS))) (XJ.old (yn.trans (lx.trans hS)))),trivial⟩ ?_;intro a W ho hF;replace lx:=lx.trans ho;clear ho;refine Ac quiet (t:=(((lO b ml pl m)==1)&&(((!f)||(decide ((cZ ml.length m).length>(L.length:Int))))||(((cZ ml.length m).length==(L.length:Int))&&(en (cZ ml.length m) L))))) (hF.g 0 rfl) (fun XZ=>?_) (fun XZ=>?_)
   ·skip
    replace hF:=hF.tl;exfalso
    have h1:lO b ml pl m=1∧(f=false∨L.length<(cZ ml.length m).length∨((cZ ml.length m).length=L.length∧en (cZ ml.length m) L=true)):=by
     revert XZ;cases f<;>simp;exact fun h1 h2=>⟨h1,h2.imp id fun⟨a,b⟩=>⟨by omega,b⟩⟩
    obtain⟨g1,g2,g3⟩:=H9.cm m hm h1.1;rcases h1.2 with h2|h2|⟨h2,h3⟩
    ·rw[h2] at g1;cases g1
    ·omega
    ·rw[g3 h2] at h3;cases h3
   ·skip
    replace hF:=hF.tl;show nt aq Code.skip _ _ _;refine oq quiet (dO a7) fun τ0 δ0=>?_;have ho:=kg W τ0 δ0;replace lx:=lx.trans ho;clear ho;generalize dx W τ0 δ0=W2 at *;rename ar=>W;show nt aq _ _ _ _;refine j7 quiet ?_;refine JF quiet (dO a7) ⟨[],[],[],[]⟩ [(141,aF (!f))] hF hF trivial trivial ?_;intro a W ho hF;replace lx:=lx.trans ho;clear ho;refine Ac quiet (t:=(!f)) (hF.g 0 rfl) (fun Tz=>?_) (fun Tz=>?_)
    ·skip
     replace hF:=hF.tl;obtain rfl:f=false:=by simpa using Tz
     obtain rfl:L=[]:=H9.cn rfl;replace hF:=hF.del 6;simp only[nS,jE,cR,reduceIte] at hF;refine ckX quiet (dO a7) 4 ⟨[(145,true)],[(4,aF true)],[],[]⟩ rfl [(6,aF true)] hF hF trivial ⟨fun w1 hS _=>gv (tN (hL.old (h0.trans (lx.trans hS)))) (by kernel_rfl),trivial⟩ ?_;intro a W ho hF;replace lx:=lx.trans ho;clear ho;exact kO quiet (dO a7) fun τ d=>wp_ret ⟨hF.defers,_,bU rfl _ _ _,(hF.g 0 rfl),mW τ d (h0.trans lx)⟩
    ·skip
     replace hF:=hF.tl;obtain rfl:f=true:=by simpa using Tz
     obtain⟨q,hq,hLq,hKq⟩:=H9.cs rfl;show nt aq Code.skip _ _ _;refine oq quiet (dO a7) fun τ0 δ0=>?_;have ho:=kg W τ0 δ0;replace lx:=lx.trans ho;clear ho;generalize dx W τ0 δ0=W2 at *;rename ar=>W;show nt aq _ _ _ _;replace hF:=hF.del 17;simp only[nS,jE,cR,reduceIte] at hF;refine kG quiet (N:=10) rfl ?_;refine dh quiet 0 2 8 ⟨[],[],[(B3,#[ah ag b.room,ah ag b.depth,ah ag b.least,ah ag b.minutes,ah ag b.bM,ah ag b.fD,ah ag b.dc,ah ag b.fC,ah ag b.ll,ah ag b.lm,ah ag b.pl,ah ag b.pm,ae p1 ml.length c1,ae none 0 0,ae none 0 0])],[]⟩ [(149,aO #[ah ag b.room,ah ag b.depth,ah ag b.least,ah ag b.minutes,ah ag b.bM,ah ag b.fD,ah ag b.dc,ah ag b.fC,ah ag b.ll,ah ag b.lm,ah ag b.pl,ah ag b.pm,ae p1 ml.length c1,ae none 0 0,ae none 0 0]),(150,ae pL L.length cL)] hF hF ⟨fun w1 hS=>⟨_,_,bJ K3 (dp.trans (lx.trans hS))⟩,trivial⟩ trivial ?_;intro a W ho hF;replace lx:=lx.trans ho;clear ho;refine rJ quiet ⟨[],[],[],[]⟩ (some 151) (f:=48) (args:=#[aO #[ah ag b.room,ah ag b.depth,ah ag b.least,ah ag b.minutes,ah ag b.bM,ah ag b.fD,ah ag b.dc,ah ag b.fC,ah ag b.ll,ah ag b.lm,ah ag b.pl,ah ag b.pm,ae p1 ml.length c1,ae none 0 0,ae none 0 0],ae pL L.length cL]) hF hF (fun w1 hS=>Ap b _ pL _ _ _ cL _ _ _ _ ml L q xG hLq w1 (hv.old (h0.trans (lx.trans hS))) (XJ.old (yn.trans (lx.trans hS)))) ?_;rintro w1 _ W hS ⟨aki,rfl,acA,hb⟩;refine⟨_,rfl,fun a hF=>?_⟩;have ho:=hS.trans (Old.of_below hb);replace lx:=lx.trans ho;clear ho;replace h0:=h0.trans lx;replace dp:=dp.trans lx;replace C0:=C0.trans lx;replace hC:=hC.trans lx;replace yn:=yn.trans lx;replace xL:=xL.trans lx;replace hB:=hB.trans lx;replace hO:=hO.trans lx;rename ar=>ahq;have I9:=Old.refl ahq;refine dh quiet 3 7 0 ⟨[],[(4,cA #[ah ag 1,ah ag 0])],[],[]⟩ [(17,ah ag 1),(19,ah ag 0)] hF hF trivial ⟨fun w1 hS _=>gc (M3 cN xG hpl q hKq (hL.old (h0.trans (I9.trans hS))) (acA.old (I9.trans hS)) (vO.old (C0.trans (I9.trans hS)))),trivial⟩ ?_;intro a W ho hF;replace I9:=I9.trans ho;clear ho;refine kF quiet a7 ?_;replace hF:=hF.del 6;simp only[nS,jE,cR,reduceIte] at hF;refine ckX quiet a7 7 ⟨[(158,true),(162,true)],[(7,aF true)],[],[]⟩ rfl [(6,aF true)] hF hF trivial ⟨fun w1 hS _=>gv (tN (hL.old (h0.trans (I9.trans hS)))) (by kernel_rfl),trivial⟩ ?_;intro a W ho hF;replace I9:=I9.trans ho;clear ho;exact kO quiet a7 fun τ d=>wp_ret ⟨hF.defers,_,bU rfl _ _ _,(hF.g 0 rfl),mW τ d (h0.trans I9)⟩
end Go.Proofs.YtffladgmkiimjaaGreatDoor
namespace Go.Proofs.YtffladgmkiimjaaGreatDoor
open Go Go.RowKit Go.Lag Go.ChangeShapes Go.Conc
theorem Ln(os:Os)(started:os.Started)(H:Type)(enc:aZ × aj→H) :
  ReturnsInLeavingWide {} Tryz.checked os 8 .any (fun w args=>(Rows.bellCrewSpec.pre enc aq Tryz.f8 [] false w args∧laidMetH aq KB w)∧sizedMet enc aq Tryz.f8 (OpenSpec.ofChange Rows.bellCrewSpec) false w args)
   (Rows.bellCrewSpec.post enc aq Tryz.f8 false true false false):=by
 refine Kz (C:=Tryz.checked) (X:=fun w _=>laidMetH aq KB w) (fun _ _ _ hh h=>h.of_heap hh) Tryz.own started Tryz.func8
  (ChangeSpec.witness_shaped (enc:=enc) (C:=Tryz.checked) (os:=os) (X:=fun w _=>laidMetH aq KB w) false (World.doorLaid aq 400 os) #[.agg #[.int .i64 0,.int .i64 0,.int .i64 0,.int .i64 0,.int .i64 0,.int .i64 0,.int .i64 0,.int .i64 0,.int .i64 0,.int .i64 0,.int .i64 0,.int .i64 0,.slice none 0 0,.slice none 0 0,.slice none 0 0],.int .u16 0,.int .u16 0] 8 rfl (World.shaped_of_RefB (by kernel_rfl) (by kernel_rfl)) (by kernel_rfl) (by kernel_rfl) (by kernel_rfl) (T8 os _)) ?_
 intro W base args ds gs before XF hW hL;have hval:∀(j:Nat) t v,Tryz.f8.params[j]?=some t→args[j]?=some v→Value.okWide aq W .any base t v:=XF;have hW':=hW;obtain⟨p,q,hA0,hV,-,-,-⟩:=hW;have hA:DataW.TrodAll enc aq W 0 (fun _=>true) true Tryz.f8.params.toList args.toList ds p:=hA0;rw[Tryz.params8] at hA hval;obtain⟨v0,v1,v2,d0,d1,d2,p0,p1,p2,rfl,rfl,rfl,h0,h1,h2⟩:=trodAll_three hA;clear hA0 XF hA;obtain⟨b,m,s,k,rfl,hm,hs,hk⟩:=W8 (hval 0 28 v0 rfl rfl);obtain⟨x,rfl,hx⟩:=OP Tryz.underlying40 (hval 1 40 v1 rfl rfl);obtain⟨y,rfl,hy⟩:=OP Tryz.underlying40 (hval 2 40 v2 rfl rfl);obtain⟨ps,ns,cs,rfl⟩:=hs.lit;obtain⟨pk,nk,ck,rfl⟩:=hk.lit;have hla:=VH hL;have xG:=YP h0 hm
 obtain⟨M,last,o,w',t',r1,r2,r3,r4⟩:=Du quiet (f:=8) (args:=#[.agg (b.cells m (.slice ps ns cs) (.slice pk nk ck)),.int .u16 x,.int .u16 y]) (v0:=.bool true) (by kernel_rfl) W fun Wk hsz m7=>by
  rcases xG with⟨q1,n1,c1,rfl,hbig⟩|⟨q1,c1,ml,rfl,hr⟩
  ·exact Ud b _ _ _ _ _ _ _ _ _ hbig x y (hla.kill hsz m7)
  ·exact aar b _ _ _ _ _ _ _ _ ml x y (hla.kill hsz m7) (Reads.kill hr hsz m7)
 refine⟨M,last,o,w',t',r1,r2,r3,r4.mono ?_⟩;rintro v ⟨rfl,hb⟩;refine Si (tb:=4) Tryz.laidOut rfl (fun t ht=>?_) (by kernel_rfl) Tryz.underlying4 hW' (fun ds' hl=>?_) ?_ hb
 ·rw[Tryz.params8] at ht;simp at ht;rcases ht with rfl|rfl|rfl<;>exact⟨by kernel_rfl,of_decide_eq_true (by kernel_rfl)⟩
 ·rw[Tryz.params8] at hl
  match ds',hl with
  |[a,b,c],_=>rfl
 ·rw[Tryz.params8];rfl
end Go.Proofs.YtffladgmkiimjaaGreatDoor
