/- breathed (19), beside leavers. Small lemmas of BellPlayed, BellMore. L .. -/
import Derived.Test.YtffladgmkiimjaaGreatDoorW11
set_option linter.all false
set_option maxHeartbeats 0
set_option maxRecDepth 1000000
open Go.Lag.Yields renaming call -> jV,value -> yN,pD -> yvb,iB -> yvc
open Array renaming getElem?_eq_some_iff -> ag,replicate -> bz
open Go renaming TypeId -> aV,Value -> ai,World -> ak,undef -> au,wp_cond_split -> b_,results_tmp -> cg,wp_seq -> dZ,Addr -> dc,wp_skip -> eN,wp_ret -> fQ,maxLen -> gP,info_parts -> gQ,wp_block -> jC
open Go.Addr renaming add -> jh
open Go.Instr renaming indexAt -> eX
open Go.IntKind renaming i64 -> af,wrap_i64 -> bp
open Go.Obj renaming cells -> ar
open Go.Operand renaming tmp -> aD
open Go.Proofs.Tryz renaming prog -> aq,underlying28 -> cF,underlying25 -> dt
open Go.Result renaming andThen_ok -> lT
open Go.RowKit.Below renaming heap_setCell -> aW,refl -> ay
open Go.Value renaming bool -> aH,agg -> aO,slice -> ae,int -> ah,int -> ax,oneCell' -> bJ,tuple -> cR,bool -> jM
open Go.World renaming alloc_heap_new -> aw,ownsRow_nil -> dw
open List renaming pairwise_iff_getElem -> Bq,take_length -> IG,range -> aP,take_succ_eq_append_getElem -> bH,getElem_mem -> bS,getElem?_eq_getElem -> bT,take_of_length_le -> cQ,map_append -> d_,length_map -> eJ,length_cons -> eT,getElem?_map -> jU,getD_eq_getElem?_getD -> oq
open Nat renaming le_trans -> aG,le_refl -> aJ,lt_of_lt_of_le -> bA,reduceEqDiff -> bR,zero_le -> fF
open Option renaming map_some -> dK
open Option.some renaming inj -> aT
open Or renaming inl -> bV
namespace Go.Proofs.YtffladgmkiimjaaGreatDoor
open Go.RowKit Go.Lag
open Go.Conc
def Typed.old{w w':ak}{v:ai}{t:aV}(h:Typed w v t)(ho:Old w w'):Typed w' v t:=fun g hg=>by
 obtain⟨c,hc⟩:=h g hg;exact⟨c,(ho.block g (ag.1 hc).1).trans hc⟩
def Typed.vB{w:ak}{v:ai}{t u:aV}(h:Typed w v t){B:Nat}{z cs:Array ai}(hB:w.heap[B]?=some (ar z u (0,0)))(ht:t≠u):Typed (w.setRow B cs) v t:=h.setRow fun g hg=>by
 obtain⟨c,hc⟩:=h g hg;rintro rfl;rw[hc] at hB;cases hB;exact ht rfl
def Typed.at_{w w':ak}{v:ai}{t:aV}{n:Nat}{xs:List ai}(hr:Reads w v n xs)(hs:w.heap.size<=w'.heap.size)(hk:∀g,v.ownBlock=some g->w'.heap[g]?=w.heap[g]?):Reads w' v n xs:=hr.at_ hs hk
def fX.old{b:BB}{m s k:ai}{ml:List Mn}{ss:List Int}{ms:List Mk}{w w':ak}(h:fX b m s k ml ss ms w)(ho:Old w w'):fX b m s k ml ss ms w':=⟨h.todh.old ho,h.t1.old ho,h.t2.old ho,h.t3.old ho⟩
def Uy{w:ak}{v:ai}{t u:aV}(h:Typed w v t){B:Nat}{z:Array ai}(hB:w.heap[B]?=some (ar z u (0,0)))(ht:t≠u):∀g,v.ownBlock=some g->g≠B:=fun g hg=>by
 obtain⟨c,hc⟩:=h g hg;rintro rfl;rw[hc] at hB;cases hB;exact ht rfl
def fX.vB{b:BB}{m s k:ai}{ml:List Mn}{ss:List Int}{ms:List Mk}{w:ak}(h:fX b m s k ml ss ms w){B:Nat}{z cs:Array ai}(hB:w.heap[B]?=some (ar z 28 (0,0))):fX b m s k ml ss ms (w.setRow B cs):=
 ⟨⟨h.ok,h.iF,h.ng,h.lK,h.rm.at_ (by rw[setRow_size];exact aJ _) fun g hg=>setRow_other (Uy h.t1 hB dC g hg),h.rs.at_ (by rw[setRow_size];exact aJ _) fun g hg=>setRow_other (Uy h.t2 hB dC g hg),h.rk.at_ (by rw[setRow_size];exact aJ _) fun g hg=>setRow_other (Uy h.t3 hB dC g hg)⟩,
  h.t1.vB hB dC,h.t2.vB hB dC,h.t3.vB hB dC⟩
def ExB.old{m:ai}{w w':ak}(h:ExB m w)(ho:Old w w'):ExB m w':=⟨h.own.old ho,h.pl.old ho⟩
def ru{W w:ak}(h:Old W w){B:Nat}{cs:Array ai}(hB:W.heap.size<=B):Old W (w.setRow B cs):=⟨h.os,h.output,by rw[setRow_size];exact h.size,fun k hk=>(setRow_other oM).trans (h.block k hk)⟩
def xG(w:ak):Plain w (ae none 0 0):=fun g hg=>by cases hg
structure BrW(W0:ak)(B:Nat)(m:ai)(W:ak):Prop where
 since:Old W0 W
 laid:Laid W
 bk:W.heap[B]?=some (ar (ex.cells m (ae none 0 0) (ae none 0 0)) 28 (0,0))
 ex:ExB m W
def bt{W W':ak}{B:Nat}{o:Obj}(h:W.heap[B]?=some o)(ho:Old W W'):W'.heap[B]?=some o:=(ho.block _ (ag.1 h).1).trans h
def BrW.old{W0 W W':ak}{B:Nat}{m:ai}(h:BrW W0 B m W)(ho:Old W W'):BrW W0 B m W':=⟨h.since.trans ho,h.laid.old ho,bt h.bk ho,h.ex.old ho⟩
structure BrC(b:BB)(ms:List Mk)(B:Nat)(m s k:ai)(W:ak):Prop where
 bk:W.heap[B]?=some (ar (b.cells m s k) 28 (0,0))
 own:fX b m s k kr [] ms W
def BrC.old{b:BB}{ms:List Mk}{W W':ak}{B:Nat}{m s k:ai}(h:BrC b ms B m s k W)(ho:Old W W'):BrC b ms B m s k W':=⟨bt h.bk ho,h.own.old ho⟩
abbrev pR(l:List Int):Pred:=fun v _ w=>Reads w v l.length (l.map (ax af))
def kR{S:ak->Prop}{l:List Int}:∀(u:ai) (ds:List ai) (w w':ak),S w->pR l u ds w->Bw w w'->pR l u ds w':=fun _ _ _ _ _ h hb=>h.below hb
abbrev pL(l:List Int):Pred:=fun v _ w=>∃q,v=ae (some ⟨q,0,none⟩) l.length l.length/\w.heap[q]?=some (ar (l.map (ax af)).toArray 3 (0,0))
def kL{S:ak->Prop}{l:List Int}:∀(u:ai) (ds:List ai) (w w':ak),S w->pL l u ds w->Bw w w'->pL l u ds w':=fun _ _ _ _ _ ⟨q,h1,h2⟩ hb=>⟨q,h1,bt h2 (Old.of_below hb)⟩
abbrev pK(l:List Int):Pred:=fun v _ w=>∃q,v=aO #[ah af 0,ae (some ⟨q,0,none⟩) l.length l.length]/\w.heap[q]?=some (ar (l.map (ax af)).toArray 3 (0,0))
abbrev pT(r:List ai)(l:List Int):Pred:=fun v _ w=>∃x,v=cR (x::r).toArray/\Reads w x l.length (l.map (ax af))
def kT{S:ak->Prop}{r:List ai}{l:List Int}:∀(u:ai) (ds:List ai) (w w':ak),S w->pT r l u ds w->Bw w w'->pT r l u ds w':=fun _ _ _ _ _ ⟨x,h1,h2⟩ hb=>⟨x,h1,h2.below hb⟩
abbrev pB(b:BB)(ms:List Mk):Pred:=fun v _ w=>∃m s k,v=aO (b.cells m s k)/\fX b m s k kr [] ms w
def kB{S:ak->Prop}{b:BB}{ms:List Mk}:∀(u:ai) (ds:List ai) (w w':ak),S w->pB b ms u ds w->Bw w w'->pB b ms u ds w':=fun _ _ _ _ _ ⟨m,s,k,h1,h2⟩ hb=>⟨m,s,k,h1,h2.old (Old.of_below hb)⟩
abbrev pU(b:BB)(ms:List Mk):Pred:=fun v _ w=>∃m s k,v=cR #[aO (b.cells m s k),ah af 0]/\fX b m s k kr [] ms w
def kU{S:ak->Prop}{b:BB}{ms:List Mk}:∀(u:ai) (ds:List ai) (w w':ak),S w->pU b ms u ds w->Bw w w'->pU b ms u ds w':=fun _ _ _ _ _ ⟨m,s,k,h1,h2⟩ hb=>⟨m,s,k,h1,h2.old (Old.of_below hb)⟩
abbrev pX:Pred:=fun v _ w=>∃m,v=aO (ex.cells m (ae none 0 0) (ae none 0 0))/\ExB m w
abbrev pM(m s:ai):Pred:=fun v _ w=>∃k',v=aO (ex.cells m s k')/\dh ex m s k' kr [] [tq,mk2] w
def kM{S:ak->Prop}{m s:ai}:∀(u:ai) (ds:List ai) (w w':ak),S w->pM m s u ds w->Bw w w'->pM m s u ds w':=fun _ _ _ _ _ ⟨k,h1,h2⟩ hb=>⟨k,h1,h2.below hb⟩
abbrev pA(W:ak)(t:aV)(n:Nat):Pred:=fun v _ w=>∃B,∃z:Array ai,v=pv B 0/\w.heap[B]?=some (ar z t (0,0))/\z.size=n/\W.heap.size<=B
def kA{S:ak->Prop}{W:ak}{t:aV}{n:Nat}:∀(u:ai) (ds:List ai) (w w':ak),S w->pA W t n u ds w->Bw w w'->pA W t n u ds w':=fun _ _ _ _ _ ⟨B,z,h1,h2,h3,h4⟩ hb=>⟨B,z,h1,bt h2 (Old.of_below hb),h3,h4⟩
abbrev pSB(W:ak)(b:BB)(ms:List Mk):Pred:=fun _ d w=>∃B m s k,d[0]?=some (pv B 0)/\W.heap.size<=B/\w.heap[B]?=some (ar (b.cells m s k) 28 (0,0))/\fX b m s k kr [] ms w
def kSB{S:ak->Prop}{W:ak}{b:BB}{ms:List Mk}:∀(u:ai) (ds:List ai) (w w':ak),S w->pSB W b ms u ds w->Bw w w'->pSB W b ms u ds w':=fun _ _ _ _ _ ⟨B,m,s,k,h1,h4,h2,h3⟩ hb=>⟨B,m,s,k,h1,h4,bt h2 (Old.of_below hb),h3.old (Old.of_below hb)⟩
def oF(xs:List Int)(v1 v2:ai)(w:ak)(h1:Reads w v1 xs.length (xs.map (ax af)))(h2:Reads w v2 xs.length (xs.map (ax af))) :
  Calls aq 22 #[v1,v2] w (Rt w (aH true)):=by
 have h:=J4 xs xs v1 v2 w h1 h2;rw[decide_eq_true (rfl:xs=xs)] at h;exact h
def vq{W0:ak}(hL:Laid W0):ko aq 19 #[] W0 fun v W'=>v=aH true/\Old W0 W':=by
 refine lz quiet Tryz.func19 rfl ?hR ?body
 case hR=>
  rintro v W' I d ⟨h1,h2⟩;exact⟨h1,xI h2⟩
 have hF:iw 329 { tmps:=#[]++bz (Tryz.f19.ntmps-(#[]:Array ai).size) au,defers:=[] } []:=⟨by simp only[Tryz.ntmps19];simp,rfl,trivial⟩
 generalize ({ tmps:=#[]++bz (Tryz.f19.ntmps-(#[]:Array ai).size) au,defers:=[] }:Act)=a at *;refine(fun h:∀W,Old W0 W->wD aq _ (I9 aq Tryz.f19 fun v W'=>v=aH true/\Old W0 W') a W=>h W0 (Old.refl W0)) ?_;intro W h0;refine NL quiet aX ⟨[],[],[],[]⟩ [(0,aH false)] hF hF trivial trivial ?_;intro a W ho hF;replace h0:=h0.trans ho;refine mg quiet (N:=3) rfl ?_;refine tK quiet ⟨[],[],[],[]⟩ (some 37) (f:=93) (args:=#[]) hF hF (fun w1 hS=>TB (aG hL.lt (h0.trans hS).size)) ?_;rintro w1 _ W hS ⟨m,rfl,xB,hb⟩;obtain⟨pm,cm,rfl,-⟩:=aR xB.own.rm;refine⟨_,rfl,fun a hF=>?_⟩;have ho:=hS.trans (Old.of_below hb);replace h0:=h0.trans ho;rename ak=>W37;have H_:=Old.refl W37;refine px quiet ⟨[],[],[],[]⟩ (some 1) (fun B=>pv B 0) (zP) 28 hF hF ?_;intro B1 W a G1 ho K1 hF;have akg:=aG (h0.trans H_).size G1;have agf:=aG H_.size G1;replace H_:=H_.trans ho;replace h0:=h0.trans H_;rename ak=>W1;have h1:=Old.refl W1;refine QP quiet ⟨[],[],[],[]⟩ (zP) (ex.br pm kr.length cm) (aP 15) hF hF (bt K1 h1) ?_;intro W a up K1 hF;replace h0:=up _ (h0.trans h1) akg;replace H_:=up _ (H_.trans h1) agf;clear up;rename ak=>JG;have ij:=Old.refl JG;refine mf quiet aX ?_;unfold BB.br at K1;generalize (Value.slice pm kr.length cm)=m at *;replace h0:=h0.trans ij;replace H_:=H_.trans ij;rename ak=>WE;have hE:=Old.refl WE;have F:BrW W0 B1 m WE:=⟨h0,hL.old h0,(bt K1 ij),xB.old H_⟩
 refine NL quiet aX ⟨[],[(1,cR #[ah af 60,ah af 0])],[(B1,(ex.cells m (ae none 0 0) (ae none 0 0)))],[]⟩ [(2,ah af 60),(3,ah af 0)] hF hF ⟨fun w1 hS=>⟨_,_,(F.old (hE.trans hS)).bk⟩,trivial⟩ ⟨fun w1 hS _=>have F:=F.old (hE.trans hS);gc (args:=#[aO (ex.cells m (ae none 0 0) (ae none 0 0))]) (Zv F.laid F.ex.own.todh),trivial⟩ ?_;intro a W ho hF;replace hE:=hE.trans ho;refine NL quiet aX ⟨[],[(1,cR #[ah af 18,ah af 0])],[(B1,(ex.cells m (ae none 0 0) (ae none 0 0)))],[]⟩ [(4,ah af 18),(5,ah af 0)] hF hF ⟨fun w1 hS=>⟨_,_,(F.old (hE.trans hS)).bk⟩,trivial⟩ ⟨fun w1 hS _=>have F:=F.old (hE.trans hS);gc (args:=#[aO (ex.cells m (ae none 0 0) (ae none 0 0)),ah af 37]) (agp F.laid F.ex.own.todh),trivial⟩ ?_;intro a W ho hF;replace hE:=hE.trans ho;refine mg quiet (N:=10) rfl ?_;refine dG quiet 0 1 9 ⟨[],[],[(B1,(ex.cells m (ae none 0 0) (ae none 0 0)))],[]⟩ [(49,aO (ex.cells m (ae none 0 0) (ae none 0 0)))] hF hF ⟨fun w1 hS=>⟨_,_,(F.old (hE.trans hS)).bk⟩,trivial⟩ trivial ?_;intro a W ho hF;replace hE:=hE.trans ho;refine px quiet ⟨[],[],[],[]⟩ (some 50) (fun B=>ae (some ⟨B,0,none⟩) 2 2) #[ah af 3,ah af 4] 3 hF hF ?_;intro B50 W a _ ho ZV hF;replace hE:=hE.trans ho;refine dG quiet 2 1 7 ⟨[],[],[],[]⟩ [(51,aO #[ah af 0,ae (some ⟨B50,0,none⟩) 2 2])] hF hF trivial trivial ?_;intro a W ho hF;replace hE:=hE.trans ho;replace ZV:=bt ZV ho;refine px quiet ⟨[],[],[],[]⟩ (some 52) (fun B=>ae (some ⟨B,0,none⟩) 1 1) #[ah af 1] 3 hF hF ?_;intro B52 W a _ ho K52 hF;replace hE:=hE.trans ho;replace ZV:=bt ZV ho;refine tK quiet ⟨[],[],[],[]⟩ (some 53) (f:=32) (args:=#[aO (ex.cells m (ae none 0 0) (ae none 0 0)),aO #[ah af 0,ae (some ⟨B50,0,none⟩) 2 2],ae (some ⟨B52,0,none⟩) 1 1]) hF hF (fun w1 hS=>by have F:=F.old (hE.trans hS);exact acY F.laid F.ex.own.todh _ _ (bt ZV hS) (bt K52 hS)) ?_;rintro w1 _ W hS ⟨v6,rfl,r6,hb⟩;refine⟨_,rfl,fun a hF=>?_⟩;have ho:=hS.trans (Old.of_below hb);replace hE:=hE.trans ho;replace ZV:=bt ZV ho;replace K52:=bt K52 ho;replace h0:=h0.trans hE;replace H_:=H_.trans hE;replace ij:=ij.trans hE;rename ak=>W53;have xK:=Old.refl W53;refine dG quiet 5 5 0 ⟨[],[],[],[]⟩ [(6,v6),(7,ah af 0)] hF hF trivial trivial ?_;intro a W ho hF;replace ZV:=bt ZV ho;replace K52:=bt K52 ho;replace xK:=xK.trans ho;refine mf quiet aX ?_;refine NL quiet aX ⟨[],[(1,cR #[ah af 4,ah af 0])],[(B1,(ex.cells m (ae none 0 0) (ae none 0 0)))],[]⟩ [(8,ah af 4),(9,ah af 0)] hF hF ⟨fun w1 hS=>⟨_,_,(F.old (hE.trans (xK.trans hS))).bk⟩,trivial⟩ ⟨fun w1 hS _=>have F:=F.old (hE.trans (xK.trans hS));gc (args:=#[aO (ex.cells m (ae none 0 0) (ae none 0 0))]) (WN F.laid F.ex.own.todh),trivial⟩ ?_;intro a W ho hF;replace xK:=xK.trans ho;refine mg quiet (N:=9) rfl ?_;refine dG quiet 0 1 8 ⟨[],[],[(B1,(ex.cells m (ae none 0 0) (ae none 0 0)))],[]⟩ [(62,aO (ex.cells m (ae none 0 0) (ae none 0 0)))] hF hF ⟨fun w1 hS=>⟨_,_,(F.old (hE.trans (xK.trans hS))).bk⟩,trivial⟩ trivial ?_;intro a W ho hF;replace xK:=xK.trans ho;refine px quiet ⟨[],[],[],[]⟩ (some 63) (fun B=>ae (some ⟨B,0,none⟩) 2 2) #[ah af 1,ah af 3] 3 hF hF ?_;intro B63 W a _ ho K63 hF;replace xK:=xK.trans ho;refine dG quiet 2 4 3 ⟨[],[(2,cR #[aO #[ah af 21,ah af 31],ah af 0])],[],[]⟩ [(65,aO #[ah af 21,ah af 31]),(66,ah af 0)] hF hF trivial ⟨fun w1 hS _=>have F:=F.old (hE.trans (xK.trans hS));gc (args:=#[aO (ex.cells m (ae none 0 0) (ae none 0 0)),ae (some ⟨B63,0,none⟩) 2 2,ah af 5]) (ags F.laid F.ex.own.todh _ (bt K63 hS)),trivial⟩ ?_;intro a W ho hF;replace xK:=xK.trans ho;replace K63:=bt K63 ho;refine px quiet ⟨[],[],[],[]⟩ (some 10) (fun B=>pv B 0) (#[ah af 0,ah af 0]) 23 hF hF ?_;intro B10 W a Ya ho Ha hF;have agl:=aG (h0.trans xK).size Ya;have acV:=aG (H_.trans xK).size Ya;have F_:=aG (ij.trans xK).size Ya;have agi:=aG (hE.trans xK).size Ya;have acU:=aG xK.size Ya;replace xK:=xK.trans ho;replace K63:=bt K63 ho;replace h0:=h0.trans xK;replace H_:=H_.trans xK;replace ij:=ij.trans xK;replace hE:=hE.trans xK;rename ak=>W10;have h10:=Old.refl W10;refine QP quiet ⟨[],[],[],[]⟩ (#[ah af 0,ah af 0]) (#[ah af 21,ah af 31]) (aP 2) hF hF (bt Ha h10) ?_;intro W a up Ha hF;replace h0:=up _ (h0.trans h10) agl;replace H_:=up _ (H_.trans h10) acV;replace ij:=up _ (ij.trans h10) F_;replace hE:=up _ (hE.trans h10) agi;replace xK:=up _ (xK.trans h10) acU;clear up;rename ak=>Bo;have bU:=Old.refl Bo;refine dG quiet 8 1 0 ⟨[],[],[],[]⟩ [(11,ah af 0)] hF hF trivial trivial ?_;intro a W ho hF;replace bU:=bU.trans ho;refine mf quiet aX ?_;refine mg quiet (N:=8) rfl ?_;refine dG quiet 0 1 7 ⟨[],[],[(B1,(ex.cells m (ae none 0 0) (ae none 0 0)))],[]⟩ [(68,aO (ex.cells m (ae none 0 0) (ae none 0 0)))] hF hF ⟨fun w1 hS=>⟨_,_,(F.old (hE.trans (bU.trans hS))).bk⟩,trivial⟩ trivial ?_;intro a W ho hF;replace bU:=bU.trans ho;refine px quiet ⟨[],[],[],[]⟩ (some 69) (fun B=>ae (some ⟨B,0,none⟩) 2 2) #[ah af 1,ah af 3] 3 hF hF ?_;intro B69 W a _ ho K69 hF;replace bU:=bU.trans ho;refine dG quiet 2 6 0 ⟨[],[(2,cR #[ah af 1,ah af 0])],[],[]⟩ [(12,ah af 1),(13,ah af 0)] hF hF trivial ⟨fun w1 hS _=>have F:=F.old (hE.trans (bU.trans hS));gc (args:=#[aO (ex.cells m (ae none 0 0) (ae none 0 0)),ae (some ⟨B69,0,none⟩) 2 2]) (ac0 F.laid F.ex.own.todh _ (bt K69 hS)),trivial⟩ ?_;intro a W ho hF;replace bU:=bU.trans ho;replace K69:=bt K69 ho;refine mf quiet aX ?_;refine mg quiet (N:=8) rfl ?_;refine dG quiet 0 1 7 ⟨[],[],[(B1,(ex.cells m (ae none 0 0) (ae none 0 0)))],[]⟩ [(74,aO (ex.cells m (ae none 0 0) (ae none 0 0)))] hF hF ⟨fun w1 hS=>⟨_,_,(F.old (hE.trans (bU.trans hS))).bk⟩,trivial⟩ trivial ?_;intro a W ho hF;replace bU:=bU.trans ho;refine px quiet ⟨[],[],[],[]⟩ (some 75) (fun B=>ae (some ⟨B,0,none⟩) 2 2) #[ah af 1,ah af 2] 3 hF hF ?_;intro B75 W a _ ho K75 hF;replace bU:=bU.trans ho;refine dG quiet 2 6 0 ⟨[],[(2,cR #[ah af 0,ah af 0])],[],[]⟩ [(14,ah af 0),(15,ah af 0)] hF hF trivial ⟨fun w1 hS _=>have F:=F.old (hE.trans (bU.trans hS));gc (args:=#[aO (ex.cells m (ae none 0 0) (ae none 0 0)),ae (some ⟨B75,0,none⟩) 2 2]) (Zw F.laid F.ex.own.todh _ (bt K75 hS)),trivial⟩ ?_;intro a W ho hF;replace bU:=bU.trans ho;replace K75:=bt K75 ho;refine mf quiet aX ?_;refine NL quiet aX ⟨[],[(1,cR #[ah af 2,aH true,ah af 0])],[(B1,(ex.cells m (ae none 0 0) (ae none 0 0)))],[]⟩ [(16,ah af 2),(17,aH true),(18,ah af 0)] hF hF ⟨fun w1 hS=>⟨_,_,(F.old (hE.trans (bU.trans hS))).bk⟩,trivial⟩ ⟨fun w1 hS _=>have F:=F.old (hE.trans (bU.trans hS));gc (args:=#[aO (ex.cells m (ae none 0 0) (ae none 0 0)),ae none 0 0]) (agq F.laid F.ex.own.todh),trivial⟩ ?_;intro a W ho hF;replace bU:=bU.trans ho;refine mg quiet (N:=9) rfl ?_;refine dG quiet 0 1 8 ⟨[],[],[(B1,(ex.cells m (ae none 0 0) (ae none 0 0)))],[]⟩ [(86,aO (ex.cells m (ae none 0 0) (ae none 0 0)))] hF hF ⟨fun w1 hS=>⟨_,_,(F.old (hE.trans (bU.trans hS))).bk⟩,trivial⟩ trivial ?_;intro a W ho hF;replace bU:=bU.trans ho;have F1:=(F.old (hE.trans bU))
 refine Xi quiet ⟨[],[],[],[]⟩ (some 87) (f:=20) (args:=#[aO (ex.cells m (ae none 0 0) (ae none 0 0))]) hF hF (WL F1.laid F1.ex.own.todh F1.ex.pl (xG _) (xG _)) ?_;rintro _ W ⟨v19,rfl,Ml,ho⟩ a hF;clear F1;replace bU:=bU.trans ho;replace h0:=h0.trans bU;replace H_:=H_.trans bU;replace ij:=ij.trans bU;replace hE:=hE.trans bU;replace xK:=xK.trans bU;rename ak=>W87;have PU:=Old.refl W87;refine dG quiet 2 7 0 ⟨[],[],[],[]⟩ [(19,v19),(20,aH true),(21,ah af 0)] hF hF trivial trivial ?_;intro a W ho hF;replace PU:=PU.trans ho;refine mf quiet aX ?_;refine mg quiet (N:=9) rfl ?_;refine dG quiet 0 1 8 ⟨[],[],[(B1,(ex.cells m (ae none 0 0) (ae none 0 0)))],[]⟩ [(92,aO (ex.cells m (ae none 0 0) (ae none 0 0)))] hF hF ⟨fun w1 hS=>⟨_,_,(F.old (hE.trans (PU.trans hS))).bk⟩,trivial⟩ trivial ?_;intro a W ho hF;replace PU:=PU.trans ho;have F1:=(F.old (hE.trans PU))
 refine Xi quiet ⟨[],[],[],[]⟩ (some 93) (f:=23) (args:=#[aO (ex.cells m (ae none 0 0) (ae none 0 0))]) hF hF (WJ F1.laid F1.ex.own.todh F1.ex.pl (xG _) (xG _)) ?_;rintro _ W ⟨v22,rfl,Mj,ho⟩ a hF;clear F1;replace PU:=PU.trans ho;replace h0:=h0.trans PU;replace H_:=H_.trans PU;replace ij:=ij.trans PU;replace hE:=hE.trans PU;replace xK:=xK.trans PU;replace bU:=bU.trans PU;rename ak=>W93;have Ui:=Old.refl W93;refine dG quiet 2 7 0 ⟨[],[],[],[]⟩ [(22,v22),(23,aH true),(24,ah af 0)] hF hF trivial trivial ?_;intro a W ho hF;replace Ui:=Ui.trans ho;refine mf quiet aX ?_;refine gR quiet ?_;refine NL quiet (dA aX) ⟨[(99,false),(103,false),(107,false),(111,false),(115,false),(119,false),(123,false),(127,false),(131,false)],[],[],[]⟩ [(134,aH false)] hF hF trivial trivial ?_;intro a W ho hF;replace Ui:=Ui.trans ho;refine nN quiet (t:=false) (hF.g 0 rfl) ?_;replace hF:=hF.tl;refine wC quiet (dA aX) fun τ0 δ0=>?_;have ho:=m8 W τ0 δ0;replace Ui:=Ui.trans ho;generalize dR W τ0 δ0=W2 at *;rename ak=>W;refine gR quiet ?_;have hold:=(h0.trans Ui)
 replace F:=F.old (hE.trans Ui);replace r6:=r6.old (xK.trans Ui);replace Ha:=bt Ha (bU.trans Ui);replace Ml:=Ml.old (PU.trans Ui);replace Mj:=Mj.old Ui;rename ak=>W
 refine NF quiet kQ (dA aX) [pV (ah af 60),pV (aH false),pV (aH false),pV (ah af 18),pV (aH false),pV (aH false),pV (aH false),pV (v6),pL [44,38,29,20,11],pV (aH true),pV (aH false),pV (aH false),pV (aH false),pV (ah af 4),pV (aH false),pV (aH false),pV (aH false),pV (aO #[ah af 21,ah af 31]),pV (aO #[ah af 21,ah af 31]),pV (aH false),pV (aH false),pV (aH false),pV (ah af 1),pV (aH false),pV (aH false),pV (aH false),pV (ah af 0),pV (aH false),pV (aH false),pV (aH false),pV (ah af 2),pV (aH false),pV (aH false),pV (aH false),pV (aH true),pV (aH false),pV (aH false)]
  _ kQ hF.size hF.base ?_ ?_ ?_
 .exact⟨sV,sV,sV,sV,sV,sV,sV,sV,kL,sV,sV,sV,sV,sV,sV,sV,sV,sV,sV,sV,sV,sV,sV,sV,sV,sV,sV,sV,sV,sV,sV,sV,sV,sV,sV,sV,sV,trivial⟩
 .refine⟨?_,?_,?_,?_,?_,?_,?_,?_,?_,?_,?_,?_,?_,?_,?_,?_,?_,?_,?_,?_,?_,?_,?_,?_,?_,?_,?_,?_,?_,?_,?_,?_,?_,?_,?_,?_,?_,trivial⟩<;>rintro ev w1 hS hc hg hf ⟨-,-,-,-,-,-,-,-,-,-,-,b17,b16,-,b14,-,-,-,b12,-,-,-,Ov,-,-,-,-,-,b8,-,b6,-,-,-,-,-,-,b4,-,b2,-,-,-,-⟩ hd
  all_goals try
   try have d0:ev (aD _)=_:=hd.1 rfl
   try have d1:ev (aD _)=_:=hd.2.1 rfl
   try have d2:ev (aD _)=_:=hd.2.2.1 rfl
   first|refine yw rfl ?_ rfl|refine gL d0 (yw rfl ?_ rfl)|refine gL d1 (yw rfl ?_ rfl)|refine gL d2 (yw rfl ?_ rfl)
   go_simp;done
  .have d6:ev (aD 141)=_:=hd.1 rfl;refine gL d6 ?_;refine yN (v:=ae (some ⟨w1.heap.size,0,none⟩) 5 5) (w':=w1.alloc (ar #[ah af 44,ah af 38,ah af 29,ah af 20,ah af 11] 3)) ?_ ⟨⟨_,rfl,aw _ _⟩,bV dF⟩;go_simp
  .have d7:ev (aD 142)=_:=hd.1 rfl;have d8:pL _ (ev (aD 143)) [] w1:=hd.2.1 rfl;have d6:ev (aD 141)=_:=hd.2.2.1 rfl;refine gL d6 ?_;obtain⟨q8,e8,hq8⟩:=d8;refine yc (oF [44,38,29,20,11] _ _ w1 (r6.old hS) (jm (l:=[44,38,29,20,11]) hq8 dC)) ?_ fun _=>rfl;go_simp
  .have d16:ev (aD 151)=_:=hd.1 rfl;refine gL d16 ?_;exact BU 23 rfl Ov (bt Ha hS) Tryz.underlying23 rfl kQ rfl
  have d16:ev (aD 151)=_:=hd.1 rfl;refine gL d16 ?_;refine yc (EW 21 31 w1) ?_ fun _=>rfl;go_simp
 intro a W hR;have ho:=hR.s;replace F:=F.old ho;replace r6:=r6.old ho;replace Ha:=bt Ha ho;replace Ml:=Ml.old ho;replace Mj:=Mj.old ho;replace h0:=hold.trans ho;replace hF:=(hR.fr hF kQ).cons (t:=171) (hR.val 36);clear hold hR ho
 try clear a
 rename Act=>a;rename ak=>W;rename ak=>adf;have lh:=Old.refl adf;refine nN quiet (t:=false) (hF.g 0 rfl) ?_;replace hF:=hF.tl;refine wC quiet (dA aX) fun τ0 δ0=>?_;have ho:=m8 adf τ0 δ0;replace lh:=lh.trans ho;generalize dR adf τ0 δ0=W at *;rename ak=>W;refine gR quiet ?_;refine mg quiet (N:=18) rfl ?_;refine dG quiet 0 8 10 ⟨[(174,false),(178,false)],[],[],[]⟩ [(178,aH false),(179,v19)] hF hF trivial trivial ?_;intro a W ho hF;replace lh:=lh.trans ho;refine px quiet ⟨[(178,false)],[],[],[]⟩ (some 180) (fun B=>ae (some ⟨B,0,none⟩) 2 2) #[ah af 1,ah af 3] 3 hF hF ?_;intro alH W a _ ho Qt hF;replace lh:=lh.trans ho;refine dG quiet 9 5 4 ⟨[(178,false),(184,false)],[(9,aH true)],[],[]⟩ [(184,aH false),(185,v22)] hF hF trivial ⟨fun w1 hS _=>gc (args:=#[v19,ae (some ⟨alH,0,none⟩) 2 2]) (oF [1,3] _ _ w1 (Ml.old (lh.trans hS)) (jm (l:=[1,3]) (bt Qt hS) dC)),trivial⟩ ?_;intro a W ho hF;replace lh:=lh.trans ho;replace Qt:=bt Qt ho;refine px quiet ⟨[(184,false)],[],[],[]⟩ (some 186) (fun B=>ae (some ⟨B,0,none⟩) 2 2) #[ah af 2,ah af 4] 3 hF hF ?_;intro alG W a _ ho adk hF;replace lh:=lh.trans ho;replace Qt:=bt Qt ho;refine dG quiet 15 3 0 ⟨[(184,false)],[(15,aH true)],[],[]⟩ [(189,aH false)] hF hF trivial ⟨fun w1 hS _=>gc (args:=#[v22,ae (some ⟨alG,0,none⟩) 2 2]) (oF [2,4] _ _ w1 (Mj.old (lh.trans hS)) (jm (l:=[2,4]) (bt adk hS) dC)),trivial⟩ ?_;intro a W ho hF;replace lh:=lh.trans ho;replace Qt:=bt Qt ho;replace adk:=bt adk ho;refine mf quiet (dA aX) ?_;refine nN quiet (t:=false) (hF.g 0 rfl) ?_;replace hF:=hF.tl;refine wC quiet (dA aX) fun τ0 δ0=>?_;have ho:=m8 W τ0 δ0;replace lh:=lh.trans ho;generalize dR W τ0 δ0=W at *;rename ak=>W;replace hF:=hF.del 3;simp only[lQ,ic,bR,reduceIte] at hF;refine mg quiet (N:=10) rfl ?_;refine dG quiet 0 1 9 ⟨[],[],[(B1,(ex.cells m (ae none 0 0) (ae none 0 0)))],[]⟩ [(191,aO (ex.cells m (ae none 0 0) (ae none 0 0)))] hF hF ⟨fun w1 hS=>⟨_,_,(F.old (lh.trans hS)).bk⟩,trivial⟩ trivial ?_;intro a W ho hF;replace lh:=lh.trans ho;refine px quiet ⟨[],[],[],[]⟩ (some 192) (fun B=>ae (some ⟨B,0,none⟩) 2 2) #[ah af 1,ah af 3] 3 hF hF ?_;intro alF W a _ ho adj hF;replace lh:=lh.trans ho;refine dG quiet 2 8 0 ⟨[],[(2,cR #[ah af 44,aH true,ah af 0])],[],[]⟩ [(25,ah af 44),(26,aH true),(3,ah af 0)] hF hF trivial ⟨fun w1 hS _=>have F:=F.old (lh.trans hS);gc (args:=#[aO (ex.cells m (ae none 0 0) (ae none 0 0)),ae (some ⟨alF,0,none⟩) 2 2]) (TC F.laid F.ex.own.todh _ (bt adj hS)),trivial⟩ ?_;intro a W ho hF;replace lh:=lh.trans ho;replace adj:=bt adj ho;refine mf quiet aX ?_;replace hF:=hF.del 5;simp only[lQ,ic,bR,reduceIte] at hF;refine mg quiet (N:=10) rfl ?_;refine dG quiet 0 1 9 ⟨[],[],[(B1,(ex.cells m (ae none 0 0) (ae none 0 0)))],[]⟩ [(198,aO (ex.cells m (ae none 0 0) (ae none 0 0)))] hF hF ⟨fun w1 hS=>⟨_,_,(F.old (lh.trans hS)).bk⟩,trivial⟩ trivial ?_;intro a W ho hF;replace lh:=lh.trans ho;refine px quiet ⟨[],[],[],[]⟩ (some 199) (fun B=>ae (some ⟨B,0,none⟩) 1 1) #[ah af 1] 3 hF hF ?_;intro alE W a _ ho Xx hF;replace lh:=lh.trans ho;refine tK quiet ⟨[],[],[],[]⟩ (some 200) (f:=27) (args:=#[aO (ex.cells m (ae none 0 0) (ae none 0 0)),ae (some ⟨alE,0,none⟩) 1 1]) hF hF (fun w1 hS=>by have F:=F.old (lh.trans hS);exact ac1 F.laid F.ex.own.todh _ (bt Xx hS)) ?_;rintro w1 _ W hS ⟨v27,rfl,Sz,hb⟩;refine⟨_,rfl,fun a hF=>?_⟩;have ho:=hS.trans (Old.of_below hb);replace lh:=lh.trans ho;replace Xx:=bt Xx ho;replace h0:=h0.trans lh;rename ak=>akT;have KR:=Old.refl akT;refine dG quiet 3 7 0 ⟨[],[],[],[]⟩ [(27,v27),(28,aH true),(5,ah af 0)] hF hF trivial trivial ?_;intro a W ho hF;replace Xx:=bt Xx ho;replace KR:=KR.trans ho;refine mf quiet aX ?_;have hold:=(h0.trans KR)
 replace F:=F.old (lh.trans KR);replace r6:=r6.old (lh.trans KR);replace Ha:=bt Ha (lh.trans KR);replace Ml:=Ml.old (lh.trans KR);replace Mj:=Mj.old (lh.trans KR);replace Sz:=Sz.old KR;replace hF:=hF.del 7;simp only[lQ,ic,bR,reduceIte] at hF;rename ak=>W
 refine NF quiet kQ aX [pV (aO (ex.cells m (ae none 0 0) (ae none 0 0))),pV (aO #[ah af 11,ah af 11]),pV (aO #[ah af 1,ah af 11,ah af 11]),pU ex [tq],pU ex [tq],pB ex [tq],pV (ah af 0),pA W 28 15,pSB W ex [tq],pV (ah af 0)]
  _ kQ hF.size hF.base ?_ ?_ ?_
 .exact⟨sV,sV,sV,kU,kU,kB,sV,kA,kSB,sV,trivial⟩
 .refine⟨?_,?_,?_,?_,?_,?_,?_,?_,?_,?_,trivial⟩<;>rintro ev w1 hS hc hg hf ⟨-,-,-,-,-,-,-,-,-,-,-,-,-,-,-,-,-,-,-,-,-,-,-,-,-,-,-,-,-,-,-,-,-,-,-,-,-,-,-,-,-,-,-,-,-,-,-,-,-,-,-,-,-,-,b1,-,-,-⟩ hd
  all_goals try
   try have d0:ev (aD _)=_:=hd.1 rfl
   refine yw rfl ?_ rfl;go_simp;done
  .exact BU 28 rfl b1 ((F.old hS).bk) cF rfl kQ rfl
  .refine yc (Ez 11 w1) ?_ fun _=>rfl;go_simp
  .have d0:ev (aD 205)=_:=hd.1 rfl;have d2:ev (aD 207)=_:=hd.2.1 rfl;have F1:=F.old hS;refine jV (f:=75) (args:=#[aO (ex.cells m (ae none 0 0) (ae none 0 0)),aO #[ah af 1,ah af 11,ah af 11]]) ?_ (acZ F1.laid F1.ex.own.todh) ?_
   .go_simp
   rintro e w2 ⟨m,s,k,rfl,h1,hb⟩;exact⟨_,rfl,⟨m,s,k,rfl,h1⟩,bV hb⟩
  .have d3:pU _ _ (ev (aD 208)) [] w1:=hd.1 rfl;exact yv rfl d3
  .have d4:pU _ _ (ev (aD 204)) [] w1:=hd.1 rfl;obtain⟨m,s,k,e0,hx⟩:=d4;refine yN (v:=aO (ex.cells m s k)) (w':=w1) ?_ ⟨⟨m,s,k,rfl,hx⟩,bV (ay _ _)⟩;go_simp
  .have d4:pU _ _ (ev (aD 204)) [] w1:=hd.1 rfl;obtain⟨m,s,k,e0,hx⟩:=d4;exact tV
  .refine yN (v:=pv w1.heap.size 0) (w':=w1.alloc (ar Vc 28)) ?_ ⟨⟨_,_,rfl,aw _ _,rfl,hS.size⟩,bV dF⟩;go_simp
  .have d7:pA _ _ _ (ev (aD 29)) [] w1:=hd.1 rfl;have d5:pB _ _ (ev (aD 209)) [] w1:=hd.2.1 rfl;obtain⟨B,z,eB,hB,hz,hge⟩:=d7;obtain⟨m,s,k,ex0,hx⟩:=d5;obtain⟨p1,c1,rfl,_⟩:=aR hx.rm;obtain⟨p2,c2,rfl,_⟩:=aR hx.rs;obtain⟨p3,c3,rfl,_⟩:=aR hx.rk;refine yvc 28 _ _ rfl B (ex.cells (ae p1 kr.length c1) (ae p2 ([]:List Int).length c2) (ae p3 ([tq]:List Mk).length c3)) eB ex0 28 z hB kQ hz (by simp[bJ]) ⟨⟨B,_,_,_,congrArg some eB,hge,cD hB,hx.vB hB⟩,.inr ⟨ru hS hge,?_⟩⟩;intro j u ds hj hp
   match j,hp with
   |0,hp|1,hp|2,hp=>exact hp
   |3,⟨m,s,k,h1,h2⟩=>exact⟨m,s,k,h1,h2.vB hB⟩
   |4,⟨m,s,k,h1,h2⟩=>exact⟨m,s,k,h1,h2.vB hB⟩
   |5,⟨m,s,k,h1,h2⟩=>exact⟨m,s,k,h1,h2.vB hB⟩
   |6,hp=>exact hp
   |7,⟨B',z',h1,h2,h3,h4⟩=>
    by_cases qG:B'=B
    .subst qG;rw[hB] at h2;cases h2;exact⟨B',_,h1,cD hB,hz.symm.trans h3,h4⟩
    exact⟨B',z',h1,(setRow_other qG).trans h2,h3,h4⟩
   |8,_=>exact(hj rfl).elim
   |9,hp=>exact hp
   |j+10,_=>trivial
 intro a W hR;have ho:=hR.s;obtain⟨B29,m2,s2,k2,q1,q2,q3,q4⟩:=hR.val 8;have e29:a.eval (aD 29)=pv B29 0:=aT q1;have C:BrC ex [tq] B29 m2 s2 k2 W:=⟨q3,q4⟩
 clear q1 q2 q3 q4;replace F:=F.old ho;replace r6:=r6.old ho;replace Ha:=bt Ha ho;replace Ml:=Ml.old ho;replace Mj:=Mj.old ho;replace Sz:=Sz.old ho;replace h0:=hold.trans ho;replace hF:=((hR.fr hF kQ).cons (t:=29) e29).cons (t:=7) (hR.val 9);clear hold hR ho e29
 try clear a
 rename Act=>a;rename ak=>W;rename ak=>akP;have rB:=Old.refl akP;replace hF:=hF.del 9;simp only[lQ,ic,bR,reduceIte] at hF;refine NL quiet aX ⟨[],[(1,cR #[ah af 3,ah af 0])],[(B29,(ex.cells m2 s2 k2))],[]⟩ [(30,ah af 3),(9,ah af 0)] hF hF ⟨fun w1 hS=>⟨_,_,(C.old (rB.trans hS)).bk⟩,trivial⟩ ⟨fun w1 hS _=>have F:=F.old (rB.trans hS);have C:=C.old (rB.trans hS);gc (args:=#[aO (ex.cells m2 s2 k2)]) (TD F.laid C.own.todh),trivial⟩ ?_;intro a W ho hF;replace rB:=rB.trans ho;replace hF:=hF.del 11;simp only[lQ,ic,bR,reduceIte] at hF;refine mg quiet (N:=7) rfl ?_;refine dG quiet 0 1 6 ⟨[],[],[(B29,(ex.cells m2 s2 k2))],[]⟩ [(217,aO (ex.cells m2 s2 k2))] hF hF ⟨fun w1 hS=>⟨_,_,(C.old (rB.trans hS)).bk⟩,trivial⟩ trivial ?_;intro a W ho hF;replace rB:=rB.trans ho;refine tK quiet ⟨[],[],[],[]⟩ (some 218) (f:=58) (args:=#[aO (ex.cells m2 s2 k2),ah af 0]) hF hF (fun w1 hS=>by have F:=F.old (rB.trans hS);have C:=C.old (rB.trans hS);exact TE F.laid C.own.todh) ?_;rintro w1 _ W hS ⟨v31,rfl,Ys,hb⟩;refine⟨_,rfl,fun a hF=>?_⟩;have ho:=hS.trans (Old.of_below hb);replace rB:=rB.trans ho;replace h0:=h0.trans rB;rename ak=>akR;have xY:=Old.refl akR;refine dG quiet 2 5 0 ⟨[],[],[],[]⟩ [(31,v31),(11,ah af 0)] hF hF trivial trivial ?_;intro a W ho hF;replace xY:=xY.trans ho;refine mf quiet aX ?_;replace hF:=hF.del 13;simp only[lQ,ic,bR,reduceIte] at hF;refine NL quiet aX ⟨[],[(1,cR #[ah af 0,ah af 2,ah af 0])],[(B29,(ex.cells m2 s2 k2))],[]⟩ [(32,ah af 0),(33,ah af 2),(13,ah af 0)] hF hF ⟨fun w1 hS=>⟨_,_,(C.old (rB.trans (xY.trans hS))).bk⟩,trivial⟩ ⟨fun w1 hS _=>have F:=F.old (rB.trans (xY.trans hS));have C:=C.old (rB.trans (xY.trans hS));gc (args:=#[aO (ex.cells m2 s2 k2)]) (agr F.laid C.own.todh),trivial⟩ ?_;intro a W ho hF;replace xY:=xY.trans ho;have hold:=(h0.trans xY)
 replace F:=F.old (rB.trans xY);replace r6:=r6.old (rB.trans xY);replace Ha:=bt Ha (rB.trans xY);replace Ml:=Ml.old (rB.trans xY);replace Mj:=Mj.old (rB.trans xY);replace Sz:=Sz.old (rB.trans xY);replace C:=C.old (rB.trans xY);replace Ys:=Ys.old xY;replace hF:=hF.del 15;simp only[lQ,ic,bR,reduceIte] at hF;rename ak=>W
 refine NF quiet kQ aX [pV (aO (ex.cells m2 s2 k2)),pV (aO #[ah af 0,ah af 0]),pU (ex.lk 0 0) [tq],pU (ex.lk 0 0) [tq],pB (ex.lk 0 0) [tq],pV (ah af 0),pA W 28 15,pSB W (ex.lk 0 0) [tq],pV (ah af 0)]
  _ kQ hF.size hF.base ?_ ?_ ?_
 .exact⟨sV,sV,kU,kU,kB,sV,kA,kSB,sV,trivial⟩
 .refine⟨?_,?_,?_,?_,?_,?_,?_,?_,?_,trivial⟩<;>rintro ev w1 hS hc hg hf ⟨-,-,-,-,-,-,-,-,-,-,b29,-,-,-,-,-,-,-,-,-,-,-,-,-,-,-,-,-,-,-,-,-,-,-,-,-,-,-,-,-,-,-,-,-,-,-,-,-,-,-,-,-,-,-,-,-,-,-,-,-,-,-,-,-,-⟩ hd
  .exact BU 28 rfl b29 ((C.old hS).bk) cF rfl kQ rfl
  .refine yc (Ez 0 w1) ?_ fun _=>rfl;go_simp
  .have d0:ev (aD 228)=_:=hd.1 rfl;have d1:ev (aD 229)=_:=hd.2.1 rfl;have F1:=F.old hS;have C1:=C.old hS;refine jV (f:=80) (args:=#[aO (ex.cells m2 s2 k2),aO #[ah af 0,ah af 0]]) ?_ (Zy F1.laid C1.own.todh) ?_
   .go_simp
   rintro e w2 ⟨m,s,k,rfl,h1,hb⟩;exact⟨_,rfl,⟨m,s,k,rfl,h1⟩,bV hb⟩
  .have d2:pU _ _ (ev (aD 230)) [] w1:=hd.1 rfl;exact yv rfl d2
  .have d3:pU _ _ (ev (aD 227)) [] w1:=hd.1 rfl;obtain⟨m,s,k,e0,hx⟩:=d3;refine yN (v:=aO ((ex.lk 0 0).cells m s k)) (w':=w1) ?_ ⟨⟨m,s,k,rfl,hx⟩,bV (ay _ _)⟩;go_simp
  .have d3:pU _ _ (ev (aD 227)) [] w1:=hd.1 rfl;obtain⟨m,s,k,e0,hx⟩:=d3;exact tV
  .refine yN (v:=pv w1.heap.size 0) (w':=w1.alloc (ar Vc 28)) ?_ ⟨⟨_,_,rfl,aw _ _,rfl,hS.size⟩,bV dF⟩;go_simp
  .have d6:pA _ _ _ (ev (aD 34)) [] w1:=hd.1 rfl;have d4:pB _ _ (ev (aD 231)) [] w1:=hd.2.1 rfl;obtain⟨B,z,eB,hB,hz,hge⟩:=d6;obtain⟨m,s,k,ex0,hx⟩:=d4;obtain⟨p1,c1,rfl,_⟩:=aR hx.rm;obtain⟨p2,c2,rfl,_⟩:=aR hx.rs;obtain⟨p3,c3,rfl,_⟩:=aR hx.rk;refine yvc 28 _ _ rfl B ((ex.lk 0 0).cells (ae p1 kr.length c1) (ae p2 ([]:List Int).length c2) (ae p3 ([tq]:List Mk).length c3)) eB ex0 28 z hB kQ hz (by simp[bJ]) ⟨⟨B,_,_,_,congrArg some eB,hge,cD hB,hx.vB hB⟩,.inr ⟨ru hS hge,?_⟩⟩;intro j u ds hj hp
   match j,hp with
   |0,hp|1,hp=>exact hp
   |2,⟨m,s,k,h1,h2⟩=>exact⟨m,s,k,h1,h2.vB hB⟩
   |3,⟨m,s,k,h1,h2⟩=>exact⟨m,s,k,h1,h2.vB hB⟩
   |4,⟨m,s,k,h1,h2⟩=>exact⟨m,s,k,h1,h2.vB hB⟩
   |5,hp=>exact hp
   |6,⟨B',z',h1,h2,h3,h4⟩=>
    by_cases qG:B'=B
    .subst qG;rw[hB] at h2;cases h2;exact⟨B',_,h1,cD hB,hz.symm.trans h3,h4⟩
    exact⟨B',z',h1,(setRow_other qG).trans h2,h3,h4⟩
   |7,_=>exact(hj rfl).elim
   |8,hp=>exact hp
   |j+9,_=>trivial
  have d5:ev (aD 232)=_:=hd.1 rfl;exact tV
 intro a W hR;have ho:=hR.s;obtain⟨B34,m3,s3,k3,q1,q2,q3,q4⟩:=hR.val 7;have e34:a.eval (aD 34)=pv B34 0:=aT q1;have O:BrC (ex.lk 0 0) [tq] B34 m3 s3 k3 W:=⟨q3,q4⟩
 clear q1 q2 q3 q4;replace F:=F.old ho;replace r6:=r6.old ho;replace Ha:=bt Ha ho;replace Ml:=Ml.old ho;replace Mj:=Mj.old ho;replace Sz:=Sz.old ho;replace C:=C.old ho;replace Ys:=Ys.old ho;replace h0:=hold.trans ho;replace hF:=((hR.fr hF kQ).cons (t:=34) e34).cons (t:=15) (hR.val 8);clear hold hR ho e34
 try clear a
 rename Act=>a;rename ak=>W;rename ak=>akO;have uo:=Old.refl akO;replace hF:=hF.del 18;simp only[lQ,ic,bR,reduceIte] at hF;refine mg quiet (N:=7) rfl ?_;refine dG quiet 0 1 6 ⟨[],[],[(B34,((ex.lk 0 0).cells m3 s3 k3))],[]⟩ [(234,aO ((ex.lk 0 0).cells m3 s3 k3))] hF hF ⟨fun w1 hS=>⟨_,_,(O.old (uo.trans hS)).bk⟩,trivial⟩ trivial ?_;intro a W ho hF;replace uo:=uo.trans ho;refine tK quiet ⟨[],[],[],[]⟩ (some 235) (f:=58) (args:=#[aO ((ex.lk 0 0).cells m3 s3 k3),ah af 0]) hF hF (fun w1 hS=>by have F:=F.old (uo.trans hS);have O:=O.old (uo.trans hS);exact P5 F.laid O.own.todh) ?_;rintro w1 _ W hS ⟨v35,rfl,r35,hb⟩;refine⟨_,rfl,fun a hF=>?_⟩;have ho:=hS.trans (Old.of_below hb);replace uo:=uo.trans ho;replace h0:=h0.trans uo;rename ak=>akQ;have vW:=Old.refl akQ;refine dG quiet 2 5 0 ⟨[],[],[],[]⟩ [(35,v35),(18,ah af 0)] hF hF trivial trivial ?_;intro a W ho hF;replace vW:=vW.trans ho;refine mf quiet aX ?_;replace hF:=hF.del 21;simp only[lQ,ic,bR,reduceIte] at hF;refine NL quiet aX ⟨[],[(1,cR #[aO iL,ah af 7])],[(B29,(ex.cells m2 s2 k2))],[]⟩ [(21,ah af 7)] hF hF ⟨fun w1 hS=>⟨_,_,(C.old (uo.trans (vW.trans hS))).bk⟩,trivial⟩ ⟨fun w1 hS _=>have F:=F.old (uo.trans (vW.trans hS));have C:=C.old (uo.trans (vW.trans hS));gc (args:=#[aO (ex.cells m2 s2 k2),ah af 1]) (acX F.laid C.own.todh),trivial⟩ ?_;intro a W ho hF;replace vW:=vW.trans ho;have hold:=(h0.trans vW)
 replace F:=F.old (uo.trans vW);replace r6:=r6.old (uo.trans vW);replace Ha:=bt Ha (uo.trans vW);replace Ml:=Ml.old (uo.trans vW);replace Mj:=Mj.old (uo.trans vW);replace Sz:=Sz.old (uo.trans vW);replace C:=C.old (uo.trans vW);replace Ys:=Ys.old (uo.trans vW);replace O:=O.old (uo.trans vW);replace r35:=r35.old vW;replace hF:=hF.del 24;simp only[lQ,ic,bR,reduceIte] at hF;rename ak=>W
 refine NF quiet kQ aX [pV (aO (ex.cells m2 s2 k2)),pV (aO #[ah af 12,ah af 12]),pV (aO #[ah af 1,ah af 12,ah af 12]),pM m2 s2,pT [ah af 0] [0,1],pT [ah af 0] [0,1],pR [0,1],pV (ah af 0),pR [0,1],pV (ah af 0)]
  _ kQ hF.size hF.base ?_ ?_ ?_
 .exact⟨sV,sV,sV,kM,kT,kT,kR,sV,kR,sV,trivial⟩
 .refine⟨?_,?_,?_,?_,?_,?_,?_,?_,?_,?_,trivial⟩<;>rintro ev w1 hS hc hg hf ⟨-,-,-,-,-,-,-,-,-,-,-,-,-,-,-,-,-,b29,-,-,-,-,-,-,-,-,-,-,-,-,-,-,-,-,-,-,-,-,-,-,-,-,-,-,-,-,-,-,-,-,-,-,-,-,-,-,-,-,-,-,-,-,-,-,-,-,-,-,-⟩ hd
  all_goals try
   try have d0:ev (aD _)=_:=hd.1 rfl
   refine yw rfl ?_ rfl;go_simp;done
  .exact BU 28 rfl b29 ((C.old hS).bk) cF rfl kQ rfl
  .refine yc (Ez 12 w1) ?_ fun _=>rfl;go_simp
  .have d0:ev (aD 244)=_:=hd.1 rfl;have d2:ev (aD 246)=_:=hd.2.1 rfl;have F1:=F.old hS;have C1:=C.old hS;refine jV (f:=88) (args:=#[aO (ex.cells m2 s2 k2),aO #[ah af 1,ah af 12,ah af 12]]) ?_ (WI C1.own.todh) ?_
   .go_simp
   rintro e w2 ⟨k',rfl,h1,hb⟩;exact⟨_,rfl,⟨k',rfl,h1⟩,bV hb⟩
  .have d3:pM _ _ (ev (aD 247)) [] w1:=hd.1 rfl;have F1:=F.old hS;obtain⟨k',e3,hk⟩:=d3;refine jV (f:=50) (args:=#[aO (ex.cells m2 s2 k')]) ?_ (Zx F1.laid hk) ?_
   .go_simp
   rintro e w2 ⟨v,rfl,h1,hb⟩;exact⟨_,rfl,⟨v,rfl,h1⟩,bV hb⟩
  .have d4:pT _ _ (ev (aD 248)) [] w1:=hd.1 rfl;exact yv rfl d4
  .have d5:pT _ _ (ev (aD 243)) [] w1:=hd.1 rfl;obtain⟨x,e0,hx⟩:=d5;refine yv (v:=x) ?_ hx;go_simp
  .have d5:pT _ _ (ev (aD 243)) [] w1:=hd.1 rfl;obtain⟨x,e0,hx⟩:=d5;exact tV
  have d6:pR _ (ev (aD 249)) [] w1:=hd.1 rfl;exact yv rfl d6
 intro a W hR;have ho:=hR.s;have r36:pR _ (a.eval (aD 36)) [] W:=hR.val 8;obtain⟨v36,e36⟩:∃v,a.eval (aD 36)=v:=⟨_,rfl⟩
 rw[e36] at r36;replace F:=F.old ho;replace r6:=r6.old ho;replace Ha:=bt Ha ho;replace Ml:=Ml.old ho;replace Mj:=Mj.old ho;replace Sz:=Sz.old ho;replace C:=C.old ho;replace Ys:=Ys.old ho;replace O:=O.old ho;replace r35:=r35.old ho;replace h0:=hold.trans ho;replace hF:=((hR.fr hF kQ).cons (t:=36) e36).cons (t:=24) (hR.val 9);clear hold hR ho e36
 try clear a
 rename Act=>a;rename ak=>W;rename ak=>akN;have oL:=Old.refl akN;refine gR quiet ?_;refine NL quiet (dA aX) ⟨[(253,false),(257,false),(261,false),(265,false),(269,false),(273,false),(277,false),(281,false),(285,false)],[],[],[]⟩ [(288,aH false)] hF hF trivial trivial ?_;intro a W ho hF;replace oL:=oL.trans ho;refine nN quiet (t:=false) (hF.g 0 rfl) ?_;replace hF:=hF.tl;refine wC quiet (dA aX) fun τ0 δ0=>?_;have ho:=m8 W τ0 δ0;replace oL:=oL.trans ho;generalize dR W τ0 δ0=W at *;rename ak=>W;replace hF:=hF.del 0;simp only[lQ,ic,bR,reduceIte] at hF;refine mg quiet (N:=41) rfl ?_;refine dG quiet 0 10 31 ⟨[(291,true),(294,true),(297,true)],[],[],[]⟩ [(297,aH true),(298,v27)] hF hF trivial trivial ?_;intro a W ho hF;replace oL:=oL.trans ho;refine px quiet ⟨[(297,true)],[],[],[]⟩ (some 299) (fun B=>ae (some ⟨B,0,none⟩) 1 1) #[ah af 0] 3 hF hF ?_;intro alD W a _ ho zL hF;replace oL:=oL.trans ho;refine dG quiet 11 8 22 ⟨[(297,true),(302,true),(306,true)],[(11,aH true)],[],[]⟩ [(306,aH true),(307,v31)] hF hF trivial ⟨fun w1 hS _=>gc (args:=#[v27,ae (some ⟨alD,0,none⟩) 1 1]) (oF [0] _ _ w1 (Sz.old (oL.trans hS)) (jm (l:=[0]) (bt zL hS) dC)),trivial⟩ ?_;intro a W ho hF;replace oL:=oL.trans ho;replace zL:=bt zL ho;refine px quiet ⟨[(306,true)],[],[],[]⟩ (some 308) (fun B=>ae (some ⟨B,0,none⟩) 2 2) #[ah af 3,ah af 4] 3 hF hF ?_;intro alC W a _ ho G_ hF;replace oL:=oL.trans ho;replace zL:=bt zL ho;refine dG quiet 20 12 9 ⟨[(306,true),(311,true),(315,true),(319,true)],[(20,aH true)],[],[]⟩ [(319,aH true),(320,v35)] hF hF trivial ⟨fun w1 hS _=>gc (args:=#[v31,ae (some ⟨alC,0,none⟩) 2 2]) (oF [3,4] _ _ w1 (Ys.old (oL.trans hS)) (jm (l:=[3,4]) (bt G_ hS) dC)),trivial⟩ ?_;intro a W ho hF;replace oL:=oL.trans ho;replace zL:=bt zL ho;replace G_:=bt G_ ho;refine px quiet ⟨[(319,true)],[],[],[]⟩ (some 321) (fun B=>ae (some ⟨B,0,none⟩) 1 1) #[ah af 4] 3 hF hF ?_;intro alB W a _ ho Qs hF;replace oL:=oL.trans ho;replace zL:=bt zL ho;replace G_:=bt G_ ho;refine dG quiet 33 4 4 ⟨[(319,true),(324,true)],[(33,aH true)],[],[]⟩ [(324,aH true),(325,v36)] hF hF trivial ⟨fun w1 hS _=>gc (args:=#[v35,ae (some ⟨alB,0,none⟩) 1 1]) (oF [4] _ _ w1 (r35.old (oL.trans hS)) (jm (l:=[4]) (bt Qs hS) dC)),trivial⟩ ?_;intro a W ho hF;replace oL:=oL.trans ho;replace zL:=bt zL ho;replace G_:=bt G_ ho;replace Qs:=bt Qs ho;refine px quiet ⟨[(324,true)],[],[],[]⟩ (some 326) (fun B=>ae (some ⟨B,0,none⟩) 2 2) #[ah af 0,ah af 1] 3 hF hF ?_;intro alA W a _ ho adh hF;replace oL:=oL.trans ho;replace zL:=bt zL ho;replace G_:=bt G_ ho;replace Qs:=bt Qs ho;refine dG quiet 38 3 0 ⟨[(324,true)],[(38,aH true)],[],[]⟩ [(0,aH true)] hF hF trivial ⟨fun w1 hS _=>gc (args:=#[v36,ae (some ⟨alA,0,none⟩) 2 2]) (oF [0,1] _ _ w1 (r36.old (oL.trans hS)) (jm (l:=[0,1]) (bt adh hS) dC)),trivial⟩ ?_;intro a W ho hF;replace oL:=oL.trans ho;replace zL:=bt zL ho;replace G_:=bt G_ ho;replace Qs:=bt Qs ho;replace adh:=bt adh ho;refine mf quiet aX ?_;exact lU quiet aX fun I d=>fQ ⟨hF.defers,_,cg rfl _ _ _,(hF.g 0 rfl),nQ I d (h0.trans oL)⟩
def gn4{P:Program}{kv i:Nat}{s:Sem Next}{w:ak}{v:ai}(h:mP P s w v)(hk:Nat.beq i kv=false:=by rfl):GX P kv i s w v:=by
 unfold GX;rw[hk];exact h
def wS(b:BB):lN b []:=⟨sM,sM⟩
def sZ.old{W W':ak}{p:Option dc}{n c:Nat}{pk:Nat->Nat}(h:sZ W p n c pk)(hb:Old W W'):sZ W' p n c pk:=
 ⟨h.lt,h.out,fun k hk=>by obtain⟨g,off,h1,h2,h3⟩:=h.at_ k hk;exact⟨g,off,h1,bA h2 hb.size,(hb.cell (a:=⟨g,off+k,none⟩) h2).trans h3⟩⟩
def U8{B e n size:Nat}{xs:List ai}{V w w1:ak}{u:ai}(hB:V.heap.size<=B)(hown:w.ownsRow B e size u n xs)(ho:Old V w)(hgrow:w.grownBy w1 u.ownBlock):Old V w1:=by
 have hl:=fun g hg=>(hown.lt g hg).1;exact⟨hgrow.os.trans ho.os,hgrow.output.trans ho.output,aG ho.size hgrow.size,fun k hk=>(hgrow.block k (bA hk ho.size) fun e=>by have:=hl k e.symm;omega).trans (ho.block k hk)⟩
def dP{W:ak}{base B:Nat}{e t:aV}{s n:Nat}{v:ai}{xs:List ai}{cs new:Array ai}(h:W.ownsRow base e s v n xs)(hB:W.heap[B]?=some (ar cs t (0,0)))(ht:t≠e):(W.setRow B new).ownsRow base e s v n xs:=
 dY h fun g hg=>setRow_other fun hgB=>gF h hB ht (by rw[hg,hgB])
def vv(lk:Int):∀(br:List Int),br.length<=3->(jL lk br).used=lk+br.sum
 |[],_=>by simp[jL,eV.used]
 |[a],_=>by simp[jL,eV.used]
 |[a,c],_=>by simp[jL,eV.used];omega
 |[a,c,d],_=>by simp[jL,eV.used];omega
 |_::_::_::_::_,h=>by simp at h
def UB:∀(l:List Int),(∀x∈l,0<=x/\x<=99)->0<=l.sum/\l.sum<=99*(l.length:Int)
 |[],_=>by simp
 |a::r,h=>by
  have h1:=h a sM;have h2:=UB r fun x hx=>h x (by simp[hx]);simp only[List.sum_cons,eT];omega
structure LfS(k:Nat)(bk zb:Array ai)(o:ai->Array ai)(w0:ak)(mv:ai)(n:Nat)(rows:List ai)(A C:Bool)(w:ak):Prop where
 one:w.heap[k]?=some (ar bk 28 (0,0))
 two:w.heap[k+1]?=some (ar zb 28 (0,0))
 three:C=false->w.heap[k+2]?=some (ar (o mv) 28 (0,0))
 own:A=false->w.ownsRow (k+3) 79 3 mv n rows
 below:Below k w0 w
 size:k+3<=w.heap.size
section
variable{k n:Nat}{bk zb:Array ai}{o:ai->Array ai}{w0 w1 w2:ak}{mv:ai}{rows:List ai}{A A' C C':Bool}
end
def S4(ml:List Mn)(c:List Nat)(k:Nat)(hk:k<c.length)(hi:c[k]<ml.length):dX (ig ml (c.take (k+1)))=dX (ig ml (c.take k))++ml[c[k]].cells.toList:=by
 rw[bH hk];unfold ig;rw[List.filterMap_append];simp[dX,bT hi]
def aeU{w:ak}{gm om cap n:Nat}{ml:List Mn}(h:Reads w (ae (some ⟨gm,om,none⟩) n cap) ml.length (dX ml))(i j:Nat)(hi:i<ml.length)(hj:j<3)(u:ai)(hu:ml[i].cells[j]?=some u):w.cell? ⟨gm,om+i*3+j,none⟩=some u:=by
 rcases h with⟨h0,_,_⟩|⟨g,off,cap',h0,_,_,h4⟩
 .cases h0
 cases h0;have:=h4 (3*i+j) u (by rw[nC ml i j hi hj];exact hu);rwa [show om+i*3+j=om+(3*i+j) by omega]
def Fi{fn:Func}{p q:Tmp}{s t:aV}(h:fn.results = #[.cell p s,.cell q t]){tmps:Array ai}{w:ak}{g g2:Nat}{cs cs2:Array ai}
  (hp:tmps.getD p au=pv g 0) (hq:tmps.getD q au=pv g2 0)
  (hl:(loadVar s ⟨g,0,none⟩).run aq w=.ok (aO cs) w) (hm:(loadVar t ⟨g2,0,none⟩).run aq w=.ok (aO cs2) w) :
  (results fn tmps).run aq w=.ok (cR #[aO cs,aO cs2]) w:=by
 have hp':tmps[p]?.getD au=pv g 0:=by simpa using hp
 have hq':tmps[q]?.getD au=pv g2 0:=by simpa using hq
 simp[results,h,hp',hq',asAddr,hl,hm]
def N2(w:ak)(B i:Nat)(v:ai):Uo B w (w.setCell ⟨B,i,none⟩ v):=⟨rfl,rfl,rfl,sM,fun k hk=>aW w ⟨B,i,none⟩ v k hk⟩
def RA(w:ak)(B:Nat)(new:Array ai):Uo B w (w.setRow B new):=⟨rfl,rfl,rfl,setRow_size,fun k hk=>setRow_other hk⟩
def jW(br:List Int)(c:List Nat):List Int:=c.map fun i=>br.getD i 0
def Po(br:List Int)(c:List Nat)(k:Nat)(hk:k<c.length):jW br (c.take (k+1))=jW br (c.take k)++[br.getD c[k] 0]:=by
 unfold jW;rw[bH hk,d_];rfl
structure JF(B3 B4 B6 B7 B8 B9 E0 E n:Nat)(bk cc z6 z7:Array ai)(o:ai->Array ai)(lk:Int)(w0:ak)(mv uv:ai)(r1 r2:List ai)(A1 A2 C1 C2 D1 D2:Bool)(w:ak):Prop where
 k3:w.heap[B3]?=some (ar bk 28 (0,0))
 k4:w.heap[B4]?=some (ar cc 42 (0,0))
 k6:D1=false->w.heap[B6]?=some (ar z6 28 (0,0))
 k7:D2=false->w.heap[B7]?=some (ar z7 42 (0,0))
 k8:C1=false->w.heap[B8]?=some (ar (o mv) 28 (0,0))
 k9:C2=false->w.heap[B9]?=some (ar #[ah af lk,uv] 42 (0,0))
 Fz:A1=false->w.ownsRow E 79 3 mv n r1
 Ke:A2=false->w.ownsRow E 3 1 uv n r2
 below:Below E0 w0 w
 sz:E0<=E/\E<=w.heap.size
structure WmB(B3 B4 B6 B7 B8 B9 E0 E:Nat):Prop where
 b3:B3≠B6/\B3≠B7/\B3≠B8/\B3≠B9
 b4:B4≠B6/\B4≠B7/\B4≠B8/\B4≠B9
 b6:B6≠B7/\B6≠B8/\B6≠B9
 b7:B7≠B8/\B7≠B9
 b8:B8≠B9
 lt:B3<E/\B4<E/\B6<E/\B7<E/\B8<E/\B9<E
 ge:E0<=B6/\E0<=B7/\E0<=B8/\E0<=B9
section
variable{B3 B4 B6 B7 B8 B9 E0 E n:Nat}{bk cc z6 z7:Array ai}{o:ai->Array ai}{lk:Int}{w0 w1 w2:ak}{mv uv:ai}{r1 r2:List ai}{A1 A2 C1 C2 D1 D2 A1' A2' C1' C2' D1' D2':Bool}
theorem JF.next(hA1:A1'=false->A1=false)(hA2:A2'=false->A2=false)(hC1:C1'=false->C1=false)(hC2:C2'=false->C2=false)(hD1:D1'=false->D1=false)(hD2:D2'=false->D2=false)(h:JF B3 B4 B6 B7 B8 B9 E0 E n bk cc z6 z7 o lk w0 mv uv r1 r2 A1 A2 C1 C2 D1 D2 w1)(hb:Bw w1 w2):JF B3 B4 B6 B7 B8 B9 E0 E n bk cc z6 z7 o lk w0 mv uv r1 r2 A1' A2' C1' C2' D1' D2' w2:=
 ⟨aA h.k3 hb,aA h.k4 hb,fun e=>aA (h.k6 (hD1 e)) hb,fun e=>aA (h.k7 (hD2 e)) hb,fun e=>aA (h.k8 (hC1 e)) hb,fun e=>aA (h.k9 (hC2 e)) hb,fun e=>a8 (h.Fz (hA1 e)) hb,fun e=>a8 (h.Ke (hA2 e)) hb,h.below.trans (hb.mono (aG h.sz.1 h.sz.2)),h.sz.1,aG h.sz.2 hb.size⟩
theorem JF.keep(h:JF B3 B4 B6 B7 B8 B9 E0 E n bk cc z6 z7 o lk w0 mv uv r1 r2 A1 A2 C1 C2 D1 D2 w1)(hb:Bw w1 w2):JF B3 B4 B6 B7 B8 B9 E0 E n bk cc z6 z7 o lk w0 mv uv r1 r2 A1 A2 C1 C2 D1 D2 w2:=h.next id id id id id id hb
theorem JF.grown{row:Option Nat}(hB:WmB B3 B4 B6 B7 B8 B9 E0 E)(hr:∀q,row=some q->E<=q)(h:JF B3 B4 B6 B7 B8 B9 E0 E n bk cc z6 z7 o lk w0 mv uv r1 r2 A1 A2 C1 C2 D1 D2 w1)(g:w1.grownBy w2 row)(h1:A1'=false->w2.ownsRow E 79 3 mv n r1)(h2:A2'=false->w2.ownsRow E 3 1 uv n r2):JF B3 B4 B6 B7 B8 B9 E0 E n bk cc z6 z7 o lk w0 mv uv r1 r2 A1' A2' C1 C2 D1 D2 w2:=by
 have hl:=hB.lt;have hs:=h.sz;have hn:∀q,q<E->w2.heap[q]?=w1.heap[q]?:=fun q hq=>g.block q oM fun e=>by have:=hr q e.symm;omega
 exact⟨(hn _ hl.1).trans h.k3,(hn _ hl.2.1).trans h.k4,fun e=>(hn _ hl.2.2.1).trans (h.k6 e),fun e=>(hn _ hl.2.2.2.1).trans (h.k7 e),fun e=>(hn _ hl.2.2.2.2.1).trans (h.k8 e),fun e=>(hn _ hl.2.2.2.2.2).trans (h.k9 e),h1,h2,h.below.grown g oM (fun q hq=>by have:=hr q hq;omega),hs.1,aG hs.2 g.size⟩
theorem JF.turn{B:Nat}{cs:Array ai}{t:aV}(hB1:w1.heap[B]?=some (ar cs t (0,0)))(ht:t≠79/\t≠3)(hE:E0<=B)(h:JF B3 B4 B6 B7 B8 B9 E0 E n bk cc z6 z7 o lk w0 mv uv r1 r2 A1 A2 C1 C2 D1 D2 w1)(hu:Uo B w1 w2)(h3:B3≠B)(h4:B4≠B)(h6:D1'=false->D1=false/\B6≠B)(h7:D2'=false->D2=false/\B7≠B)(h8:C1'=false->C1=false/\B8≠B)(h9:C2'=false->C2=false/\B9≠B):JF B3 B4 B6 B7 B8 B9 E0 E n bk cc z6 z7 o lk w0 mv uv r1 r2 A1 A2 C1' C2' D1' D2' w2:=by
 have hn:∀q,q≠B->w2.heap[q]?=w1.heap[q]?:=fun q hq=>hu.block q hq;exact⟨(hn _ h3).trans h.k3,(hn _ h4).trans h.k4,fun e=>(hn _ (h6 e).2).trans (h.k6 (h6 e).1),fun e=>(hn _ (h7 e).2).trans (h.k7 (h7 e).1),fun e=>(hn _ (h8 e).2).trans (h.k8 (h8 e).1),fun e=>(hn _ (h9 e).2).trans (h.k9 (h9 e).1),fun e=>dY (h.Fz e) fun g hg=>hn g fun e2=>gF (h.Fz e) hB1 ht.1 (by rw[hg,e2]),fun e=>dY (h.Ke e) fun g hg=>hn g fun e2=>gF (h.Ke e) hB1 ht.2 (by rw[hg,e2]),hu.below h.below hE,h.sz.1,by rw[hu.size];exact h.sz.2⟩
theorem JF.drew(h:JF B3 B4 B6 B7 B8 B9 E0 E n bk cc z6 z7 o lk w0 mv uv r1 r2 A1 A2 C1 C2 D1 D2 w1):JF B3 B4 B6 B7 B8 B9 E0 E n bk cc z6 z7 o lk w0 mv uv r1 r2 A1 A2 C1 C2 D1 D2 w1.drew:=⟨h.k3,h.k4,h.k6,h.k7,h.k8,h.k9,fun e=>a8 (h.Fz e) (ay _ _).drew,fun e=>a8 (h.Ke e) (ay _ _).drew,h.below.drew,h.sz⟩
end
def LK(b:BB)(p1 p2 p3 pB pc:Option dc)(c1 n2 c2 n3 c3 cB cn:Nat)(lk:Int)(ml:List Mn)(br:List Int)(c:List Nat)(hlen:ml.length<=3)(hbl:br.length=ml.length)(hcl:c.length<=3)(hcb:∀i∈c,i<ml.length)(w:ak)(hv:Reads w (ae p1 ml.length c1) ml.length (dX ml))(hbr:Reads w (ae pB br.length cB) br.length (br.map (ax af)))(hx:Reads w (ae pc c.length cn) c.length (c.map fun i=>ax af (i:Nat))):Calls aq 39 #[aO (b.sl p1 ml.length c1 p2 n2 c2 p3 n3 c3),aO #[ah af lk,ae pB br.length cB],ae pc c.length cn] w fun e w'=>∃v u,e=.returned (cR #[aO (b.cells v (ae p2 n2 c2) (ae p3 n3 c3)),aO #[ah af lk,u]])/\w'.ownsRow w.heap.size 79 3 v c.length (dX (ig ml c))/\w'.ownsRow w.heap.size 3 1 u c.length ((jW br c).map (ax af))/\Bw w w':=by
 obtain⟨i0,hi,hz0,hz1,hz2⟩:=gQ info3;obtain⟨i1,Bv,MT,hy1,hy2⟩:=gQ VA;refine nY Tryz.func39 rfl rfl [(2,ae pc c.length cn),(1,aO #[ah af lk,ae pB br.length cB]),(0,aO (b.sl p1 ml.length c1 p2 n2 c2 p3 n3 c3))] ⟨jB rfl,jB rfl,jB rfl,trivial⟩ fun a W hF hw=>?_;refine vI (N:=4) rfl ?_;refine nR ⟨[],[],[],[]⟩ (some 3) (fun B=>pv B 0) (b.sl p1 ml.length c1 p2 n2 c2 p3 n3 c3) 28 hF hF ?_;intro B3 W a G3 ho K3 hF;have ake:=aG hw.size G3;replace hw:=hw.tr ho;rename ak=>W3;have h3:=ay W3.heap.size W3;have q3:=(ag.1 K3).1;refine nR ⟨[],[],[],[]⟩ (some 4) (fun B=>pv B 0) (#[ah af lk,ae pB br.length cB]) 42 hF hF ?_;intro B4 W a G4 ho K4 hF;have acT:=aG (hw.tr h3).size G4;have akd:=aG h3.size G4;replace h3:=h3.tr ho;replace hw:=hw.tr h3;rename ak=>W4;have h4:=ay W4.heap.size W4;have q4:=(ag.1 K4).1;refine nR ⟨[],[],[],[]⟩ (some 6) (fun B=>pv B 0) (zP) 28 hF hF ?_;intro B6 W a G6 ho K6 hF;have aj_:=aG (hw.tr h4).size G6;have aqK:=aG (h3.tr h4).size G6;have aqJ:=aG h4.size G6;replace h4:=h4.tr ho;replace hw:=hw.tr h4;replace h3:=h3.tr h4;rename ak=>W6;have h6:=ay W6.heap.size W6;refine nR ⟨[],[],[],[]⟩ (some 7) (fun B=>pv B 0) (#[ah af 0,ae none 0 0]) 42 hF hF ?_;intro B7 W a G7 ho K7 hF;have acQ:=aG (hw.tr h6).size G7;have aqI:=aG (h3.tr h6).size G7;have aqH:=aG (h4.tr h6).size G7;have aqG:=aG h6.size G7;replace h6:=h6.tr ho;replace hw:=hw.tr h6;replace h3:=h3.tr h6;replace h4:=h4.tr h6;rename ak=>W7;have h7:=ay W7.heap.size W7;refine xd ?_;replace K3:=aA K3 (h3.tr h7);replace K4:=aA K4 (h4.tr h7);replace K6:=aA K6 (h6.tr h7);replace K7:=aA K7 h7;replace hw:=(hw.tr h7)
 rename ak=>W;have j3:=(ag.1 K3).1;have j4:=(ag.1 K4).1;have j6:=(ag.1 K6).1;have j7:=(ag.1 K7).1;have hwz:=hw.size;refine Jt kQ [pV (aO (b.sl p1 ml.length c1 p2 n2 c2 p3 n3 c3)),pV (pv B4 0),pV (ah af lk),pV (aO #[ah af lk,ae none 0 0]),fun v _ w9=>∃B z,v=pv B 0/\w9.heap[B]?=some (ar z 28 (0,0))/\z.size=15/\W.heap.size<=B,fun v _ w9=>∃B z,v=pv B 0/\w9.heap[B]?=some (ar z 42 (0,0))/\z.size=2/\W.heap.size<=B,fun _ ds w9=>∃B,ds[0]?=some (pv B 0)/\W.heap.size<=B/\w9.heap[B]?=some (ar (b.sl p1 ml.length c1 p2 n2 c2 p3 n3 c3) 28 (0,0)),fun _ ds w9=>∃B,ds[0]?=some (pv B 0)/\W.heap.size<=B/\w9.heap[B]?=some (ar #[ah af lk,ae none 0 0] 42 (0,0))] _ kQ hF.size hF.base ?_ ?_ ?_
 .refine⟨sV,sV,sV,sV,?_,?_,?_,?_,trivial⟩
  .rintro v ds w1 w2 hS ⟨B,z,h1,h2,h3⟩ hb;exact⟨B,z,h1,aA h2 hb,h3⟩
  .rintro v ds w1 w2 hS ⟨B,z,h1,h2,h3⟩ hb;exact⟨B,z,h1,aA h2 hb,h3⟩
  .rintro v ds w1 w2 hS ⟨B,h1,h2,h3⟩ hb;exact⟨B,h1,h2,aA h3 hb⟩
  rintro v ds w1 w2 hS ⟨B,h1,h2,h3⟩ hb;exact⟨B,h1,h2,aA h3 hb⟩
 .refine⟨?_,?_,?_,?_,?_,?_,?_,?_,trivial⟩<;>rintro ev w1 hS hc hg hf ⟨-,-,b4,b3,-,-,-,-⟩ hd
  .have lj:=aA K3 hS;exact BU 28 rfl b3 lj cF rfl kQ rfl
  .exact tV
  .have d1:ev (aD 12)=_:=hd.1 rfl;have z:=aF (aA K4 hS) 0 _ rfl;exact tV
  .have d2:ev (aD 13)=_:=hd.1 rfl;exact tV
  .refine yN (v:=pv w1.heap.size 0) (w':=w1.alloc (ar zP 28)) ?_ ⟨⟨_,_,rfl,aw _ _,rfl,hS.size⟩,bV dF⟩;go_simp
  .refine yN (v:=pv w1.heap.size 0) (w':=w1.alloc (ar #[ah af 0,ae none 0 0] 42)) ?_ ⟨⟨_,_,rfl,aw _ _,rfl,hS.size⟩,bV dF⟩;go_simp
  .obtain⟨B,z,eB,hB,hz,hge⟩:=hd.1 rfl;replace eB:ev (aD 8)=_:=eB;have dv:ev (aD 11)=_:=hd.2.1 rfl;refine yvc 28 _ _ rfl B (b.sl p1 ml.length c1 p2 n2 c2 p3 n3 c3) eB dv 28 z hB kQ hz (by simp[bJ]) ⟨⟨B,congrArg some eB,hge,cD hB⟩,.inr ⟨dx hS hge,?_⟩⟩;intro j u ds hj hp
   match j,hp with
   |0,hp|1,hp|2,hp|3,hp=>exact hp
   |4,⟨B',z',h1,h2,h3,h4⟩=>
    by_cases qG:B'=B
    .subst qG;rw[hB] at h2;cases h2;exact⟨B',_,h1,cD hB,hz.symm.trans h3,h4⟩
    exact⟨B',z',h1,(setRow_other qG).trans h2,h3,h4⟩
   |5,⟨B',z',h1,h2,h3,h4⟩=>exact⟨B',z',h1,(setRow_other (by rintro rfl;rw[hB] at h2;cases h2)).trans h2,h3,h4⟩
   |6,_=>exact(hj rfl).elim
   |7,⟨B',h1,h2,h3⟩=>exact⟨B',h1,h2,(setRow_other (by rintro rfl;rw[hB] at h3;cases h3)).trans h3⟩
   |j+8,_=>trivial
  .obtain⟨B,z,eB,hB,hz,hge⟩:=hd.1 rfl;replace eB:ev (aD 9)=_:=eB;have dv:ev (aD 14)=_:=hd.2.1 rfl;refine yvc 42 _ _ rfl B #[ah af lk,ae none 0 0] eB dv 42 z hB kQ hz (by simp[bJ]) ⟨⟨B,congrArg some eB,hge,cD hB⟩,.inr ⟨dx hS hge,?_⟩⟩;intro j u ds hj hp
   match j,hp with
   |0,hp|1,hp|2,hp|3,hp=>exact hp
   |4,⟨B',z',h1,h2,h3,h4⟩=>exact⟨B',z',h1,(setRow_other (by rintro rfl;rw[hB] at h2;cases h2)).trans h2,h3,h4⟩
   |5,⟨B',z',h1,h2,h3,h4⟩=>
    by_cases qG:B'=B
    .subst qG;rw[hB] at h2;cases h2;exact⟨B',_,h1,cD hB,hz.symm.trans h3,h4⟩
    exact⟨B',z',h1,(setRow_other qG).trans h2,h3,h4⟩
   |6,⟨B',h1,h2,h3⟩=>exact⟨B',h1,h2,(setRow_other (by rintro rfl;rw[hB] at h3;cases h3)).trans h3⟩
   |7,_=>exact(hj rfl).elim
   |j+8,_=>trivial
 intro a W9 hR;have ho:Bw W W9:=hR.s;obtain⟨B8,q8,g8,K8⟩:=hR.val 6;obtain⟨B9,q9,g9,K9⟩:=hR.val 7;have e8:a.eval (aD 8)=pv B8 0:=aT q8;have e9:a.eval (aD 9)=pv B9 0:=aT q9;replace hF:=((hR.fr hF kQ).cons (t:=8) e8).cons (t:=9) e9;clear hR q8 q9 e8 e9;replace K3:=aA K3 ho;replace K4:=aA K4 ho;replace K6:=aA K6 ho;replace K7:=aA K7 ho;replace hw:=hw.tr ho;have h89:B8≠B9:=by rintro rfl;rw[K9] at K8;cases K8
 refine vI (N:=2) rfl ?_;refine lZ 0 1 1 [(15,pv B8 12)] hF ?_;intro a W ho hF;replace K3:=aA K3 ho;replace K4:=aA K4 ho;replace K6:=aA K6 ho;replace K7:=aA K7 ho;replace K8:=aA K8 ho;replace K9:=aA K9 ho;replace hw:=hw.tr ho;refine wP ⟨[],[],[],[]⟩ _ (b.sl none 0 0 p2 n2 c2 p3 n3 c3) [0] hF hF K8 ?_;intro W a up K8 hF;replace K3:=(up.block _ oM).trans K3;replace K4:=(up.block _ oM).trans K4;replace K6:=(up.block _ oM).trans K6;replace K7:=(up.block _ oM).trans K7;replace K9:=(up.block _ oM).trans K9;replace hw:=up.below hw oM;clear up;refine xd ?_;obtain⟨E,hE⟩:∃E,E=W.heap.size:=⟨_,rfl⟩
 have l3:=(ag.1 K3).1;have l4:=(ag.1 K4).1;have l6:=(ag.1 K6).1;have l7:=(ag.1 K7).1;have l8:=(ag.1 K8).1;have l9:=(ag.1 K9).1;have h67:B6≠B7:=by rintro rfl;rw[K6] at K7;cases K7
 have HB:WmB B3 B4 B6 B7 B8 B9 w.heap.size E:=⟨⟨oM,oM,oM,oM⟩,⟨oM,oM,oM,oM⟩,⟨h67,oM,oM⟩,⟨oM,oM⟩,h89,⟨oM,oM,oM,oM,oM,oM⟩,⟨aj_,acQ,oM,oM⟩⟩
 have EE:JF B3 B4 B6 B7 B8 B9 w.heap.size E 0 (b.sl p1 ml.length c1 p2 n2 c2 p3 n3 c3) #[ah af lk,ae pB br.length cB] zP #[ah af 0,ae none 0 0] (fun u=>(b.cells (u) (ae p2 n2 c2) (ae p3 n3 c3))) lk w (ae none 0 0) (ae none 0 0) [] [] false false false false false false W:=⟨K3,K4,fun _=>K6,fun _=>K7,fun _=>K8,fun _=>K9,fun _=>dw _ _ _ _,fun _=>dw _ _ _ _,hw,by have:=hw.size;omega⟩
 clear K3 K4 K6 K7 K8 K9 hw l3 l4 l6 l7 l8 l9 h67 h89 hE;refine dZ ?_;refine fe [(10,ah af 0)] hF ?_;intro a W ho hF;replace EE:=EE.keep ho;refine jC ?_;replace hF:=((hF.del 15).del 1).del 0;simp only[lQ,ic,bR,reduceIte] at hF;refine wp_loop (fun a W=>∃(k:Nat) (mv uv:ai),k<=c.length/\iw 50 a [(10,ah af (k:Int)),(9,pv B9 0),(8,pv B8 0),(7,pv B7 0),(6,pv B6 0),(4,pv B4 0),(3,pv B3 0),(2,ae pc c.length cn)]/\JF B3 B4 B6 B7 B8 B9 w.heap.size E k (b.sl p1 ml.length c1 p2 n2 c2 p3 n3 c3) #[ah af lk,ae pB br.length cB] zP #[ah af 0,ae none 0 0] (fun u=>(b.cells (u) (ae p2 n2 c2) (ae p3 n3 c3))) lk w (mv) (uv) (dX (ig ml (c.take k))) ((jW br (c.take k)).map (ax af)) false false false false false false W) (fun a _=>c.length-(intOf (a.eval (aD 10))).toNat) ⟨0,_,_,fF _,⟨hF.size,hF.defers,hF.base⟩,EE⟩ ?_;clear hF EE;rintro a W ⟨k,mv,uv,hk,hF,EE⟩;have ajd:a.eval (aD 10)=ah af (k:Int):=(hF.g 0 rfl)
 obtain⟨pm,cm,rfl⟩:=bP (EE.Fz rfl);obtain⟨pu,cu,rfl⟩:=bP (EE.Ke rfl);refine dZ ?_;refine fe [(19,aH (decide ((k:Int)<(c.length:Int))))] hF ?_;intro a W ho hF;replace EE:=EE.keep ho;refine b_ (t:=(decide ((k:Int)<(c.length:Int)))) (hF.g 0 rfl) (fun F4=>?_) (fun F4=>?_)
 .replace hF:=hF.tl;have hlt:k<c.length:=by simpa using F4
  obtain⟨i,hik⟩:∃i,c[k]=i:=⟨_,rfl⟩
  have hiL:i<ml.length:=hcb i (hik▸bS hlt);have hib:i<br.length:=oM;obtain⟨m,hme⟩:∃m,ml[i]=m:=⟨_,rfl⟩
  obtain⟨y,hy⟩:∃y,br[i]=y:=⟨_,rfl⟩
  have Nh:=hF;have hSz:=EE
  obtain⟨g,off,rfl,hci⟩:∃g off,pc=some ⟨g,off,none⟩/\∀w9,Bw w w9->w9.cell? ⟨g,off+k,none⟩=some (ah af (i:Int)):=by
   rcases hx with⟨_,h0,_⟩|⟨g,off,cap,h0,_,hg,h4⟩
   .omega
   cases h0;exact⟨g,off,rfl,fun w9 h9=>(h9.cell (p:=⟨g,off+k,none⟩) hg).trans (h4 k _ (by rw[jU,bT hlt,hik];rfl))⟩
  obtain⟨gb,ob,rfl,ajA⟩:∃gb ob,pB=some ⟨gb,ob,none⟩/\∀w9,Bw w w9->w9.cell? ⟨gb,ob+i,none⟩=some (ah af y):=by
   rcases hbr with⟨_,h0,_⟩|⟨g,off,cap,h0,_,hg,h4⟩
   .omega
   cases h0;exact⟨g,off,rfl,fun w9 h9=>(h9.cell (p:=⟨g,off+i,none⟩) hg).trans (h4 i _ (by rw[jU,bT hib,hy];rfl))⟩
  obtain⟨gm,om,rfl,hcm⟩:∃gm om,p1=some ⟨gm,om,none⟩/\∀w9,Bw w w9->∀j u,j<3->m.cells[j]?=some u->w9.cell? ⟨gm,om+i*3+j,none⟩=some u:=by
   have hv2:=hv;rcases hv with⟨_,h0,_⟩|⟨g,off,cap,h0,_,hg,h4⟩
   .omega
   cases h0;exact⟨g,off,rfl,fun w9 h9 j u hj hu=>(h9.cell (p:=⟨g,off+i*3+j,none⟩) hg).trans (aeU hv2 i j hiL hj u (by rw[hme];exact hu))⟩
  replace hF:=Nh;replace EE:=hSz;clear Nh hSz;refine eN ?_;refine dZ ?_;refine jC ?_
  refine EJ kQ [
  fun v ds w9=>v=pv B8 12,
   fun v ds w9=>v=ae pm k cm,
   fun v ds w9=>v=pv B3 12,
   fun v ds w9=>v=ae (some ⟨gm,om,none⟩) ml.length c1,
   fun v ds w9=>v=ae (some ⟨g,off,none⟩) c.length cn,
   fun v ds w9=>v=ah af (k:Int),
   fun v ds w9=>v=pv g (off+k),
   fun v ds w9=>v=ah af (i:Int),
   fun v ds w9=>v=.pointer (some ⟨gm,om+i*3,none⟩),
   fun v ds w9=>v=aO m.cells,
   fun v ds w9=>∃q,v=ae (some ⟨q,0,none⟩) 1 1/\E<=q/\w9.heap[q]?=some (ar m.cells 79 (0,0))/\some q≠(ae pm k cm:ai).ownBlock,
   fun v ds w9=>∃p c9,v=ae p (k+1) c9/\w9.ownsRow E 79 3 v (k+1) ((dX (ig ml (c.take k)))++m.cells.toList),
   fun v ds w9=>v=pv B9 1,
   fun v ds w9=>v=ae pu k cu,
   fun v ds w9=>v=pv B4 1,
   fun v ds w9=>v=ae (some ⟨gb,ob,none⟩) br.length cB,
   fun v ds w9=>v=ae (some ⟨g,off,none⟩) c.length cn,
   fun v ds w9=>v=ah af (k:Int),
   fun v ds w9=>v=pv g (off+k),
   fun v ds w9=>v=ah af (i:Int),
   fun v ds w9=>v=pv gb (ob+i),
   fun v ds w9=>v=ah af y,
   fun v ds w9=>∃q,v=ae (some ⟨q,0,none⟩) 1 1/\E<=q/\w9.heap[q]?=some (ar #[ah af y] 3 (0,0))/\some q≠(ae pu k cu:ai).ownBlock,
   fun v ds w9=>∃p c9,v=ae p (k+1) c9/\w9.ownsRow E 3 1 v (k+1) (((jW br (c.take k)).map (ax af))++[ah af y]),
   fun v ds w9=>v=pv B8 12,
   fun v ds w9=>∃x,ds[1]?=some x/\w9.heap[B8]?=some (ar (b.cells (x) (ae p2 n2 c2) (ae p3 n3 c3)) 28 (0,0)),
   fun v ds w9=>v=pv B9 1,
   fun v ds w9=>∃x,ds[1]?=some x/\w9.heap[B9]?=some (ar #[ah af lk,x] 42 (0,0))]
   (fun L9 w9=>JF B3 B4 B6 B7 B8 B9 w.heap.size E k (b.sl (some ⟨gm,om,none⟩) ml.length c1 p2 n2 c2 p3 n3 c3) #[ah af lk,ae (some ⟨gb,ob,none⟩) br.length cB] zP #[ah af 0,ae none 0 0] (fun u=>(b.cells (u) (ae p2 n2 c2) (ae p3 n3 c3))) lk w (ae pm k cm) (ae pu k cu) (dX (ig ml (c.take k))) ((jW br (c.take k)).map (ax af)) (L9 11) (L9 23) (L9 25) (L9 27) false false w9) [(2,ae (some ⟨g,off,none⟩) c.length cn),(3,pv B3 0),(4,pv B4 0),(8,pv B8 0),(9,pv B9 0),(10,ah af (k:Int))] kQ hF.size ?rst (fun L1 L2 w1 w2 hl h hb=>h.next (hl 11) (hl 23) (hl 25) (hl 27) id id hb) (EE.drew) (by obtain⟨Ov,b9,b8,-,-,b4,b3,b2,-⟩:=hF.base;exact⟨b2,b3,b4,b8,b9,Ov,trivial⟩) ?reach ?rfin
  case rst=>
   refine⟨Ph.kS,Ph.kS,Ph.kS,Ph.kS,Ph.kS,Ph.kS,Ph.kS,Ph.kS,Ph.kS,Ph.kS,?_,?_,Ph.kS,Ph.kS,Ph.kS,Ph.kS,Ph.kS,Ph.kS,Ph.kS,Ph.kS,Ph.kS,Ph.kS,?_,?_,Ph.kS,?_,Ph.kS,?_,trivial⟩
   .rintro v ds L9 w1 w2 hS ⟨q,h1,h2,h3,h4⟩ hb;exact⟨q,h1,h2,aA h3 hb,h4⟩
   .rintro v ds L9 w1 w2 hS ⟨p,c9,h1,h2⟩ hb;exact⟨p,c9,h1,a8 h2 hb⟩
   .rintro v ds L9 w1 w2 hS ⟨q,h1,h2,h3,h4⟩ hb;exact⟨q,h1,h2,aA h3 hb,h4⟩
   .rintro v ds L9 w1 w2 hS ⟨p,c9,h1,h2⟩ hb;exact⟨p,c9,h1,a8 h2 hb⟩
   .rintro v ds L9 w1 w2 hS ⟨x,h1,h2⟩ hb;exact⟨x,h1,aA h2 hb⟩
   rintro v ds L9 w1 w2 hS ⟨x,h1,h2⟩ hb;exact⟨x,h1,aA h2 hb⟩
  case reach=>
   refine⟨?_,?_,?_,?_,?_,?_,?_,?_,?_,?_,?_,?_,?_,?_,?_,?_,?_,?_,?_,?_,?_,?_,?_,?_,?_,?_,?_,?_,trivial⟩<;>(intro Lf ev w1 hn nG hS hc hg hf hb hd;obtain⟨b2,b3,b4,b8,b9,Ov,-⟩:=hb)
   .exact Ph.t9
   .have d0:(ev (aD 22))=pv B8 12:=hd.1 rfl;have z:=aF (hS.k8 (hn 25 kQ)) 12 (ae pm k cm) rfl;exact Ph.t9
   .exact Ph.t9
   .have d2:(ev (aD 24))=pv B3 12:=hd.1 rfl;have z:=aF hS.k3 12 (ae (some ⟨gm,om,none⟩) ml.length c1) rfl;exact Ph.t9
   .exact Ph.t9
   .exact Ph.t9
   .have d4:(ev (aD 26))=ae (some ⟨g,off,none⟩) c.length cn:=hd.1 rfl;have d5:(ev (aD 27))=ah af (k:Int):=hd.2.1 rfl;have Bv:¬(c.length<=k):=oM;exact Ph.t9
   .have d6:(ev (aD 28))=pv g (off+k):=hd.1 rfl;have hz:=hci w1 hS.below;exact Ph.t9
   .have d3:(ev (aD 25))=ae (some ⟨gm,om,none⟩) ml.length c1:=hd.1 rfl;have d7:(ev (aD 29))=ah af (i:Int):=hd.2.1 rfl;have Zg:¬(ml.length<=i):=oM;exact Ph.t9
   .have d8:(ev (aD 30))=.pointer (some ⟨gm,om+i*3,none⟩):=hd.1 rfl;have z0:=hcm w1 hS.below 0 _ oM rfl;have z1:=hcm w1 hS.below 1 _ oM rfl;have z2:=hcm w1 hS.below 2 _ oM rfl;simp only[Nat.add_zero] at z0;exact Ph.t9
   .have d9:(ev (aD 31))=aO m.cells:=hd.1 rfl;refine yN (v:=ae (some ⟨w1.heap.size,0,none⟩) 1 1) (w':=w1.alloc (ar m.cells 79)) ?_ ⟨⟨_,rfl,hS.sz.2,aw _ _,fun h=>absurd ((hS.Fz (hn 11 kQ)).lt _ h.symm).2 oM⟩,bV dF⟩;go_simp
   .have d1:(ev (aD 23))=ae pm k cm:=hd.1 rfl;have d10:∃q,(ev (aD 32))=ae (some ⟨q,0,none⟩) 1 1/\E<=q/\w1.heap[q]?=some (ar m.cells 79 (0,0))/\some q≠(ae pm k cm:ai).ownBlock:=hd.2.1 rfl;obtain⟨q,eq,hq0,hq,Uc⟩:=d10;have hown:=hS.Fz nG;have hown2:=hS.Ke (hn 23 kQ);refine Yields.mC (aD 23) (aD 32) 24 rfl E 79 i1 (aO #[.string ⟨#[]⟩,ah af 0,ah af 0]) 3 32 Tryz.underlying24 Bv MT hy1 hy2 rfl dC (ae pm k cm) k (dX (ig ml (c.take k))) d1 hown ⟨q,0,none⟩ 1 1 m.cells.toList eq rfl ?_ (by simp[bJ]) (by unfold gP;omega) oM hS.sz.2 ?_
    .intro n u hn9;have h5:=aF hq n u (by simpa using hn9);have e:(⟨q,0,none⟩:dc).add n=⟨q,n,none⟩:=by cases n<;>simp[jh]
     rw[e];exact h5
    intro v' w' hown' hgrow _;obtain⟨p',c',rfl⟩:=bP hown';refine⟨⟨p',c',rfl,hown'⟩,.inr ⟨hS.grown HB (fun q hq=>(hown.lt q hq).1) hgrow (fun e=>by simp[Ph.upd] at e) (fun _=>dY hown2 fun g hg=>hgrow.block g (hown2.lt g hg).2 (fun e2=>su hown2 hown dC hg e2)),?_⟩⟩;intro t u ds hj hL hp
    match t,hp with
    |0,hp|1,hp|2,hp|3,hp|4,hp|5,hp|6,hp|7,hp|8,hp|9,hp=>exact hp
    |10,⟨q2,h1,h2,h3,h4⟩=>exact⟨q2,h1,h2,(hgrow.block q2 (ag.1 h3).1 h4).trans h3,h4⟩
    |11,_=>exact(hj rfl).elim
    |12,hp|13,hp|14,hp|15,hp|16,hp|17,hp|18,hp|19,hp|20,hp|21,hp=>exact hp
    |22,⟨q2,h1,h2,h3,h4⟩=>exact⟨q2,h1,h2,(hgrow.block q2 (ag.1 h3).1 (gF hown h3 dC)).trans h3,h4⟩
    |23,_=>rw[hn 23 kQ] at hL;cases hL
    |24,hp=>exact hp
    |25,_=>rw[hn 25 kQ] at hL;cases hL
    |26,hp=>exact hp
    |27,_=>rw[hn 27 kQ] at hL;cases hL
    |t+28,_=>trivial
   .exact Ph.t9
   .have d12:(ev (aD 34))=pv B9 1:=hd.1 rfl;have z:=aF (hS.k9 (hn 27 kQ)) 1 (ae pu k cu) rfl;exact Ph.t9
   .exact Ph.t9
   .have d14:(ev (aD 36))=pv B4 1:=hd.1 rfl;have z:=aF hS.k4 1 (ae (some ⟨gb,ob,none⟩) br.length cB) rfl;exact Ph.t9
   .exact Ph.t9
   .exact Ph.t9
   .have d16:(ev (aD 38))=ae (some ⟨g,off,none⟩) c.length cn:=hd.1 rfl;have d17:(ev (aD 39))=ah af (k:Int):=hd.2.1 rfl;have Bv:¬(c.length<=k):=oM;exact Ph.t9
   .have d18:(ev (aD 40))=pv g (off+k):=hd.1 rfl;have hz:=hci w1 hS.below;exact Ph.t9
   .have d15:(ev (aD 37))=ae (some ⟨gb,ob,none⟩) br.length cB:=hd.1 rfl;have d19:(ev (aD 41))=ah af (i:Int):=hd.2.1 rfl;have hi3:¬(br.length<=i):=oM;have hi4:¬(ml.length<=i):=oM;exact Ph.t9
   .have d20:(ev (aD 42))=pv gb (ob+i):=hd.1 rfl;have hz:=ajA w1 hS.below;exact Ph.t9
   .have d21:(ev (aD 43))=ah af y:=hd.1 rfl;refine yN (v:=ae (some ⟨w1.heap.size,0,none⟩) 1 1) (w':=w1.alloc (ar #[ah af y] 3)) ?_ ⟨⟨_,rfl,hS.sz.2,aw _ _,fun h=>absurd ((hS.Ke (hn 23 kQ)).lt _ h.symm).2 oM⟩,bV dF⟩;go_simp
   .have d13:(ev (aD 35))=ae pu k cu:=hd.1 rfl;have d22:∃q,(ev (aD 44))=ae (some ⟨q,0,none⟩) 1 1/\E<=q/\w1.heap[q]?=some (ar #[ah af y] 3 (0,0))/\some q≠(ae pu k cu:ai).ownBlock:=hd.2.1 rfl;obtain⟨q,eq,hq0,hq,Uc⟩:=d22;have hown:=hS.Ke nG;refine Yields.mC (aD 35) (aD 44) 25 rfl E 3 i0 (ah af 0) 1 8 dt hi hz0 hz1 hz2 rfl dC (ae pu k cu) k ((jW br (c.take k)).map (ax af)) d13 hown ⟨q,0,none⟩ 1 1 [ah af y] eq rfl ?_ (by intro u hu;simp at hu;subst hu;rfl) (by unfold gP;omega) oM hS.sz.2 ?_
    .intro n u hn9;have h5:=aF hq n u (by simpa using hn9);have e:(⟨q,0,none⟩:dc).add n=⟨q,n,none⟩:=by cases n<;>simp[jh]
     rw[e];exact h5
    intro v' w' hown' hgrow _;obtain⟨p',c',rfl⟩:=bP hown';refine⟨⟨p',c',rfl,hown'⟩,.inr ⟨hS.grown HB (fun q hq=>(hown.lt q hq).1) hgrow (fun e=>dY (hS.Fz e) fun g hg=>hgrow.block g ((hS.Fz e).lt g hg).2 (fun e2=>su (hS.Fz e) hown dC hg e2)) (fun e=>by simp[Ph.upd] at e),?_⟩⟩;intro t u ds hj hL hp
    match t,hp with
    |0,hp|1,hp|2,hp|3,hp|4,hp|5,hp|6,hp|7,hp|8,hp|9,hp=>exact hp
    |10,⟨q2,h1,h2,h3,h4⟩=>exact⟨q2,h1,h2,(hgrow.block q2 (ag.1 h3).1 (gF hown h3 dC)).trans h3,h4⟩
    |11,⟨p2,c8,h1,h2⟩=>exact⟨p2,c8,h1,dY h2 fun g hg=>hgrow.block g (h2.lt g hg).2 (fun e2=>su h2 hown dC hg e2)⟩
    |12,hp|13,hp|14,hp|15,hp|16,hp|17,hp|18,hp|19,hp|20,hp|21,hp=>exact hp
    |22,⟨q2,h1,h2,h3,h4⟩=>exact⟨q2,h1,h2,(hgrow.block q2 (ag.1 h3).1 h4).trans h3,h4⟩
    |23,_=>exact(hj rfl).elim
    |24,hp=>exact hp
    |25,_=>rw[hn 25 kQ] at hL;cases hL
    |26,hp=>exact hp
    |27,_=>rw[hn 27 kQ] at hL;cases hL
    |t+28,_=>trivial
   .exact Ph.t9
   .have d24:(ev (aD 46))=pv B8 12:=hd.1 rfl;have d11:∃p c9,(ev (aD 33))=ae p (k+1) c9/\w1.ownsRow E 79 3 (ev (aD 33)) (k+1) ((dX (ig ml (c.take k)))++m.cells.toList):=hd.2.1 rfl;have d1:(ev (aD 23))=ae pm k cm:=hd.2.2.2.2.1 rfl;obtain⟨p,c9,h1,h2⟩:=d11;have nW:=hS.k8 nG;have z:=aF nW 12 (ae pm k cm) rfl;have f:=dm nW 12;refine Lag.Yields.skip (w':=w1.setCell ⟨B8,12,none⟩ (ev (aD 33))) ?_ ⟨⟨_,rfl,dn _ nW⟩,.inr ⟨hS.turn nW dC HB.ge.2.2.1 (N2 _ _ _ _) HB.b3.2.2.1 HB.b4.2.2.1 (fun _=>⟨rfl,HB.b6.2.1⟩) (fun _=>⟨rfl,HB.b7.1⟩) (fun e=>by simp[Ph.upd] at e) (fun e=>⟨by simpa [Ph.upd] using e,HB.b8.symm⟩),?_⟩⟩
    .rw[h1];go_simp
    .intro t u ds hj hL hp
     match t,hp with
     |0,hp|1,hp|2,hp|3,hp|4,hp|5,hp|6,hp|7,hp|8,hp|9,hp=>exact hp
     |10,⟨q2,g1,g2,g3,g4⟩=>exact⟨q2,g1,g2,(aW _ _ _ _ (by rintro rfl;rw[nW] at g3;cases g3)).trans g3,g4⟩
     |11,⟨p2,c8,g1,g2⟩=>exact⟨p2,c8,g1,di g2 nW dC⟩
     |12,hp|13,hp|14,hp|15,hp|16,hp|17,hp|18,hp|19,hp|20,hp|21,hp=>exact hp
     |22,⟨q2,g1,g2,g3,g4⟩=>exact⟨q2,g1,g2,(aW _ _ _ _ (by rintro rfl;rw[nW] at g3;cases g3)).trans g3,g4⟩
     |23,⟨p2,c8,g1,g2⟩=>exact⟨p2,c8,g1,di g2 nW dC⟩
     |24,hp=>exact hp
     |25,_=>exact(hj rfl).elim
     |26,hp=>exact hp
     |27,_=>rw[hn 27 kQ] at hL;cases hL
     |t+28,_=>trivial
   .exact Ph.t9
   have d26:(ev (aD 47))=pv B9 1:=hd.1 rfl;have d23:∃p c9,(ev (aD 45))=ae p (k+1) c9/\w1.ownsRow E 3 1 (ev (aD 45)) (k+1) (((jW br (c.take k)).map (ax af))++[ah af y]):=hd.2.1 rfl;have d2:(ev (aD 24))=pv B3 12:=hd.2.2.2.2.2.1 rfl;obtain⟨p,c9,h1,h2⟩:=d23;have nW:=hS.k9 nG;have z:=aF nW 1 (ae pu k cu) rfl;have f:=dm nW 1;refine Lag.Yields.skip (w':=w1.setCell ⟨B9,1,none⟩ (ev (aD 45))) ?_ ⟨⟨_,rfl,dn _ nW⟩,.inr ⟨hS.turn nW dC HB.ge.2.2.2 (N2 _ _ _ _) HB.b3.2.2.2 HB.b4.2.2.2 (fun _=>⟨rfl,HB.b6.2.2⟩) (fun _=>⟨rfl,HB.b7.2⟩) (fun e=>⟨by simpa [Ph.upd] using e,HB.b8⟩) (fun e=>by simp[Ph.upd] at e),?_⟩⟩
   .rw[h1];go_simp
   .intro t u ds hj hL hp
    match t,hp with
    |0,hp|1,hp|2,hp|3,hp|4,hp|5,hp|6,hp|7,hp|8,hp|9,hp=>exact hp
    |10,⟨q2,g1,g2,g3,g4⟩=>exact⟨q2,g1,g2,(aW _ _ _ _ (by rintro rfl;rw[nW] at g3;cases g3)).trans g3,g4⟩
    |11,⟨p2,c8,g1,g2⟩=>exact⟨p2,c8,g1,di g2 nW dC⟩
    |12,hp|13,hp|14,hp|15,hp|16,hp|17,hp|18,hp|19,hp|20,hp|21,hp=>exact hp
    |22,⟨q2,g1,g2,g3,g4⟩=>exact⟨q2,g1,g2,(aW _ _ _ _ (by rintro rfl;rw[nW] at g3;cases g3)).trans g3,g4⟩
    |23,⟨p2,c8,g1,g2⟩=>exact⟨p2,c8,g1,di g2 nW dC⟩
    |24,hp=>exact hp
    |25,⟨x2,g1,g2⟩=>exact⟨x2,g1,(aW _ _ _ _ HB.b8).trans g2⟩
    |26,hp=>exact hp
    |27,_=>exact(hj rfl).elim
    |t+28,_=>trivial
  case rfin=>
   intro a W9 hR;have hS:=hR.s;obtain⟨p33,c33,e33,VP⟩:=hR.val 11;obtain⟨p45,c45,e45,VO⟩:=hR.val 23;obtain⟨x1,ex1,afo⟩:=hR.val 25;obtain⟨x2,ex2,afn⟩:=hR.val 27;have ey1:a.eval (aD 33)=x1:=aT ex1;have ey2:a.eval (aD 45)=x2:=aT ex2;replace e33:a.eval (aD 33)=_:=e33;replace e45:a.eval (aD 45)=_:=e45;replace VP:W9.ownsRow E 79 3 (a.eval (aD 33)) _ _:=VP;replace VO:W9.ownsRow E 3 1 (a.eval (aD 45)) _ _:=VO;rw[e33] at ey1 VP;rw[e45] at ey2 VO;subst ey1;subst ey2;replace hF:=hR.fr hF kQ
   have hr1:dX (ig ml (c.take (k+1)))=dX (ig ml (c.take k))++m.cells.toList:=by
    have h:=S4 ml c k hlt (by rw[hik];exact hiL);rw[h];have e:ml[c[k]]'(by rw[hik];exact hiL)=m:=by rw[<-hme];congr 1
    rw[e]
   have hr2:jW br (c.take (k+1))=jW br (c.take k)++[y]:=by rw[Po br c k hlt,hik,oq,bT hib,hy];rfl
   replace EE:JF B3 B4 B6 B7 B8 B9 w.heap.size E (k+1) (b.sl (some ⟨gm,om,none⟩) ml.length c1 p2 n2 c2 p3 n3 c3) #[ah af lk,ae (some ⟨gb,ob,none⟩) br.length cB] zP #[ah af 0,ae none 0 0] (fun u=>(b.cells (u) (ae p2 n2 c2) (ae p3 n3 c3))) lk w (ae p33 (k+1) c33) (ae p45 (k+1) c45) (dX (ig ml (c.take (k+1)))) ((jW br (c.take (k+1))).map (ax af)) false false false false false false W9:=⟨hS.k3,hS.k4,hS.k6,hS.k7,fun _=>afo,fun _=>afn,fun _=>by rw[hr1];exact VP,fun _=>by rw[hr2,d_];exact VO,hS.below,hS.sz⟩
   clear hR hS e33 e45 VP VO ex1 ex2 afo afn;have qo:=hF;replace hF:=hF.tl;refine Ou ⟨[],[(1,ah af ((k:Int)+1))],[],[]⟩ [(10,ah af ((k:Int)+1))] qo hF trivial ⟨fun w1 hS _=>ge (congrArg (ax af) (show IntKind.i64.wrap ((k:Int)+1)=((k:Int)+1) by rw[bp];omega)),trivial⟩ ?_;intro a W ho hF;clear qo;replace EE:=EE.keep ho;refine⟨⟨k+1,_,_,oM,⟨hF.size,hF.defers,hF.base⟩,EE⟩,?_⟩;rw[show a.eval (aD 10)=ah af ((k:Int)+1) from(hF.g 0 rfl)];simp only[ajd];simp[intOf];omega
 replace hF:=hF.tl;refine wp_exit ?_;obtain rfl:k=c.length:=by simp at F4;omega
 rw[IG] at EE;refine dZ ?_
 refine EJ kQ [
 fun v ds w9=>v=aO (b.sl pm c.length cm p2 n2 c2 p3 n3 c3),
  fun v ds w9=>v=aO #[ah af lk,ae pu c.length cu],
  fun v ds w9=>w9.heap[B6]?=some (ar (b.sl pm c.length cm p2 n2 c2 p3 n3 c3) 28 (0,0)),
  fun v ds w9=>w9.heap[B7]?=some (ar #[ah af lk,ae pu c.length cu] 42 (0,0))]
  (fun L9 w9=>JF B3 B4 B6 B7 B8 B9 w.heap.size E c.length (b.sl p1 ml.length c1 p2 n2 c2 p3 n3 c3) #[ah af lk,ae pB br.length cB] zP #[ah af 0,ae none 0 0] (fun u=>(b.cells (u) (ae p2 n2 c2) (ae p3 n3 c3))) lk w (ae pm c.length cm) (ae pu c.length cu) (dX (ig ml c)) ((jW br c).map (ax af)) false false false false (L9 2) (L9 3) w9) [(6,pv B6 0),(7,pv B7 0),(8,pv B8 0),(9,pv B9 0)] kQ hF.size ?rst (fun L1 L2 w1 w2 hl h hb=>h.next id id id id (hl 2) (hl 3) hb) (EE.drew) (by obtain⟨-,b9,b8,b7,b6,-,-,-,-⟩:=hF.base;exact⟨b6,b7,b8,b9,trivial⟩) ?reach ?rfin
 case rst=>
  refine⟨Ph.kS,Ph.kS,?_,?_,trivial⟩
  .rintro v ds L9 w1 w2 hS h1 hb;exact aA h1 hb
  rintro v ds L9 w1 w2 hS h1 hb;exact aA h1 hb
 case reach=>
  refine⟨?_,?_,?_,?_,trivial⟩<;>(intro Lf ev w1 hn nG hS hc hg hf hb hd;obtain⟨b6,b7,b8,b9,-⟩:=hb)
  .exact yvb 28 _ rfl B8 b8 28 _ (0,0) _ (hS.k8 rfl) cF rfl kQ ⟨rfl,bV (ay _ _)⟩
  .exact yvb 42 _ rfl B9 b9 42 _ (0,0) _ (hS.k9 rfl) Tryz.underlying42 rfl kQ ⟨rfl,bV (ay _ _)⟩
  .have d0:(ev (aD 48))=aO (b.sl pm c.length cm p2 n2 c2 p3 n3 c3):=hd.1 rfl;have k6:=hS.k6 nG;refine yvc 28 _ _ rfl B6 (b.sl pm c.length cm p2 n2 c2 p3 n3 c3) b6 d0 28 _ k6 kQ rfl (by simp[bJ]) ⟨cD k6,.inr ⟨hS.turn k6 dC HB.ge.1 (RA _ _ _) HB.b3.1 HB.b4.1 (fun e=>by simp[Ph.upd] at e) (fun e=>⟨by simpa [Ph.upd] using e,HB.b6.1.symm⟩) (fun _=>⟨rfl,HB.b6.2.1.symm⟩) (fun _=>⟨rfl,HB.b6.2.2.symm⟩),?_⟩⟩;intro t u ds hj hL hp
   match t,hp with
   |0,hp|1,hp=>exact hp
   |2,_=>exact(hj rfl).elim
   |3,_=>rw[hn 3 kQ] at hL;cases hL
   |t+4,_=>trivial
  .have d1:(ev (aD 49))=aO #[ah af lk,ae pu c.length cu]:=hd.1 rfl;have k7:=hS.k7 nG;refine yvc 42 _ _ rfl B7 #[ah af lk,ae pu c.length cu] b7 d1 42 _ k7 kQ rfl (by simp[bJ]) ⟨cD k7,.inr ⟨hS.turn k7 dC HB.ge.2.1 (RA _ _ _) HB.b3.2.1 HB.b4.2.1 (fun e=>⟨by simpa [Ph.upd] using e,HB.b6.1⟩) (fun e=>by simp[Ph.upd] at e) (fun _=>⟨rfl,HB.b7.1.symm⟩) (fun _=>⟨rfl,HB.b7.2.symm⟩),?_⟩⟩;intro t u ds hj hL hp
   match t,hp with
   |0,hp|1,hp=>exact hp
   |2,hp=>exact(setRow_other HB.b6.1).trans hp
   |3,_=>exact(hj rfl).elim
   |t+4,_=>trivial
 case rfin=>
  intro a W9 hR;have hS:=hR.s;have k6:W9.heap[B6]?=_:=hR.val 2;have k7:W9.heap[B7]?=_:=hR.val 3;replace hF:=hR.fr hF kQ;clear hR;refine fQ ?_;refine bodyPost_ret (Fi rfl (hF.g 4 rfl) (hF.g 3 rfl) (run_loadVar_row _ B6 28 28 _ (0,0) _ k6 cF rfl kQ) (run_loadVar_row _ B7 42 42 _ (0,0) _ k7 Tryz.underlying42 rfl kQ)) hF.defers ⟨_,_,rfl,?_,?_,hS.below⟩
  .exact jn (hS.Fz rfl) hS.sz.1
  exact jn (hS.Ke rfl) hS.sz.1
def ue(b:BB)(n:Int):BB:={ b with iC:=min 99 (b.iC+n) }
def yx(b:BB)(n:Int):BB:={ b with cI:=max 0 (b.cI-n) }
def Yx{b:BB}(h:b.Ok){n:Int}(hn:0<=n):(ue b n).Ok:=
 ⟨h.room,h.depth,h.least,h.minutes,h.cI,h.jP,h.ey,(by have:=h.iC;omega:0<=min 99 (b.iC+n)/\min 99 (b.iC+n)<=99),h.leak,h.Fs⟩
def YT{b:BB}(h:b.Ok){n:Int}(hn:0<=n):(yx b n).Ok:=
 ⟨h.room,h.depth,h.least,h.minutes,(by have:=h.cI;omega:0<=max 0 (b.cI-n)/\max 0 (b.cI-n)<=99),h.jP,h.ey,h.iC,h.leak,h.Fs⟩
def SB{b:BB}(h:b.Ok){n:Int}(hn:0<=n)(p m:Nat):nD b p m<=nD (ue b n) p m:=by
 have:=h.iC;unfold nD ue;dsimp only;split<;>split<;>omega
def Ao{b c:BB}{u v:Int}{p q:Nat}(hr:b.room=c.room)(hh:b.holds=c.holds)(hu:v<=u)(hm:∀m,nD b p m<=nD c q m){n:Nat}(hn:n<=20){p1 p2:Option dc}{c1 c2:Nat}{w:ak}
  (hx:Reads w (ae p1 n c1) n ((c.j9 v q n).map (ax af))) (hy:Reads w (ae p2 n c2) n ((b.j9 u p n).map (ax af))):Calls aq 38 #[ae p1 n c1,ae p2 n c2] w (Rt w (aH true)):=by
 have h1:=c.iK v q n;have h2:=b.iK u p n;have h:=abq p1 p2 c1 c2 (c.j9 v q n) (b.j9 u p n) (by rw[h1,h2]) oM (fun k k1 k2=>Yy hr hh hu hm n k k1 k2) w (by rw[h1];exact hx) (by rw[h2];exact hy);rw[h1,h2] at h;exact h
def yG(n i:Nat):List Nat:=(aP n).eraseIdx i
def Gj(n i:Nat):(yG n i).Sublist (aP n):=List.eraseIdx_sublist _ _
def Zz{n i k:Nat}(h:k∈yG n i):k<n:=List.mem_range.1 ((Gj n i).subset h)
def WY(n i:Nat):(yG n i).length<=n:=by have:=(Gj n i).length_le;simpa using this
def TI(n i:Nat):(si n).eraseIdx i=(yG n i).map fun(k:Nat)=>(k:Int):=by
 unfold si yG;rw[List.eraseIdx_eq_take_drop_succ,List.eraseIdx_eq_take_drop_succ,d_,List.map_take,List.map_drop]
def Dt:∀ml:List Mn,ig ml (aP ml.length)=ml
 |[]=>rfl
 |m::r=>by
  unfold ig;rw[eT,List.range_succ_eq_map,List.filterMap_cons,List.filterMap_map];simp only[List.getElem?_cons_zero];have:=Dt r;unfold ig at this
  congr 1
def S3(ml:List Mn){c:List Nat}(h:c.Sublist (aP ml.length)):(ig ml c).Sublist ml:=by
 have h2:(ig ml c).Sublist (ig ml (aP ml.length)):=List.Sublist.filterMap _ h;rwa [Dt] at h2
def Pd{ml:List Mn}(hm:xp ml)(i:Nat):xp (ig ml (yG ml.length i)):=by
 have h:=S3 ml (Gj ml.length i);refine⟨fun x hx=>hm.mem x (h.subset hx),fun i k hi hk hik=>?_,aG h.length_le hm.len⟩;have ha:ml.Pairwise fun a b=>a.name≠b.name:=Bq.2 hm.apart;exact Bq.1 (ha.sublist h) i k hi hk hik
def S6{br:List Int}{c:List Nat}(hc:∀i∈c,i<br.length):∀x∈jW br c,x∈br:=by
 intro x hx;obtain⟨i,hi,rfl⟩:=List.mem_map.1 hx;have:=hc i hi;rw[oq,bT this];exact bS this
def S5{br:List Int}(hb:∀x∈br,0<=x){i:Nat}(hi:i<br.length):(jW br (yG br.length i)).sum<=br.sum:=by
 have h:=TG (fun j=>br.getD j 0) br.length i hi fun j hj=>by
  show 0<=br.getD j 0;rw[oq,bT hj];exact hb _ (bS hj)
 have e:(aP br.length).map (fun j=>br.getD j 0)=br:=by
  refine List.ext_getElem sM fun k h1 h2=>?_;rw[List.getElem_map,List.getElem_range,oq,bT h2];rfl
 rw[e] at h;exact h
def OH{W:ak}{p:Option dc}{c:Nat}{L:List Int}(h:Reads W (ae p L.length c) L.length (L.map (ax af)))(k:Nat)(hk:k<=L.length) :
  ∃sv,(∀w,(Instr.sliceAt 25 (ae p L.length c) (some (ah af (k:Int))) none none).run aq w=.ok sv w)/\∀w9,Bw W w9->Src w9 sv (L.length-k) ((L.drop k).map (ax af)):=by
 rcases h with⟨h0,h1,h2⟩|⟨g,off,cap,h0,⟨h1,h1c⟩,h2,h3⟩
 .injection h0 with e1 e2 e3
  subst e1;subst e3;have hL:L=[]:=List.length_eq_zero_iff.1 h1;subst hL;obtain rfl:k=0:=by simpa using hk
  exact⟨ae none 0 0,fun w=>by go_simp,fun w9 h9=>bV ⟨rfl,rfl,rfl⟩⟩
 cases h0;have h5:(k:Int)<=(c:Int):=oM;have h6:(0:Int)<=(k:Int):=oM;have h7:(k:Int)<=(L.length:Int):=oM;refine⟨ae (some (if c-k=0 then⟨g,off,none⟩ else⟨g,off+k,none⟩)) (L.length-k) (c-k),fun w=>?_,fun w9 h9=>.inr ⟨_,_,rfl,fun j u hj=>?_⟩⟩
 .go_simp
  by_cases hck:c=k
  .rw[if_pos hck,if_pos oM]
  rw[if_neg hck,if_neg oM]
 rw[jU] at hj
 have M6:k+j<L.length:=by
  cases e:(L.drop k)[j]? with
  |none=>rw[e] at hj;cases hj
  |some x=>have:=(List.getElem?_eq_some_iff.1 e).1;rw[List.length_drop] at this;omega
 rw[if_neg oM];have h8:=(h9.cell (p:=⟨g,off+(k+j),none⟩) h2).trans (h3 (k+j) u (by rw[jU,<-List.getElem?_drop];exact hj));have e:(⟨g,off+k,none⟩:dc).add j=⟨g,off+(k+j),none⟩:=by cases j<;>simp[jh,Nat.add_assoc]
 rw[e];exact h8
def TJ{P:Program}{aM:Array Oper}{Q:Exit->Act->ak->Prop}{n:Nat}{id:Nat}{a0:Act}{w:ak}{late:List (Nat × Tmp × ai)}(hm:P.follows .mixedOrders=true)(Vs:List Pred)(S:Ph.Ls->ak->Prop)(base:List (Tmp × ai))(dp:ji aM n base=true)(hn:a0.tmps.size=n)(Cg:Ph.jy S Vs)
  (Jn:∀(L L':Ph.Ls) w w',(∀t,L' t=false->L t=false)->S L w->Bw w w'->S L' w') (hS:S (fun _=>false) w.drew) (hbase:gi a0.eval base) (hlate:Ph.G8 aM a0.eval late) (hE:Ph.Each (Lag.Yields P) aM Vs S base late 0 aM.toList) (hQ:∀a w,Ph.jq aM Vs S a0 (bz aM.size true) a w->Q .normal a w):(Code.region id aM true).wp P Q a0 w:=
 Ph.qZ hm Vs S base (by rw[hn];exact dp) Cg Jn hS hbase hlate hE hQ
def Ie{o:Oper}{ev:Operand->ai}{w:ak}{x y:Operand}{sx sy v:ai}(ho:o.op=.slice 25 x none (some y) none)(hx:ev x=sx)(hy:ev y=sy)(hr:(Instr.sliceAt 25 sx none (some sy) none).run aq w=.ok v w):(execOp ev o).run aq w=.ok (.value v) w:=by
 unfold execOp;simp only[ho,dK,Option.map_none,hx,hy,Sem.run_bind,Sem.run_pure,hr,lT]
def Ef{o:Oper}{ev:Operand->ai}{w:ak}{x y:Operand}{sx sy v:ai}(ho:o.op=.slice 25 x (some y) none none)(hx:ev x=sx)(hy:ev y=sy)(hr:(Instr.sliceAt 25 sx (some sy) none none).run aq w=.ok v w):(execOp ev o).run aq w=.ok (.value v) w:=by
 unfold execOp;simp only[ho,dK,Option.map_none,hx,hy,Sem.run_bind,Sem.run_pure,hr,lT]
def abD{x:Int}{L:List Int}{k:Nat}(hk:k<=L.length)(h1:∀(j:Nat) (h:j<L.length),j<k->L[j]<x)(h2:∀h:k<L.length,¬L[k]<x)(hne:¬ ∃h:k<L.length,L[k]=x):ni x L=L.take k++[x]++L.drop k:=by
 rw[Kz x L k hk (fun j hj=>h1 j oM hj) h2]
 by_cases h:k<L.length
 .rw[dif_pos h,if_neg fun e=>hne ⟨h,e⟩]
 rw[dif_neg h,cQ oM,List.drop_eq_nil_of_le oM,List.append_nil]
def Vy{x:Int}{L:List Int}{k:Nat}(hk:k<L.length)(h1:∀(j:Nat) (h:j<L.length),j<k->L[j]<x)(h2:∀h:k<L.length,¬L[k]<x)(he:L[k]=x):ni x L=L:=by
 rw[Kz x L k oM (fun j hj=>h1 j oM hj) h2,dif_pos hk,if_pos he]
def OD(p:Option dc)(c:Nat)(xs:List Int)(hl:xs.length<=20)(w:ak)(hx:Reads w (ae p xs.length c) xs.length (xs.map (ax af))):Calls aq 37 #[ae p xs.length c] w fun e w'=>∃v,e=.returned v/\Reads w' v (qu xs).length ((qu xs).map (ax af))/\Bw w w':=by
 obtain⟨i0,hi,hz0,hz1,hz2⟩:=gQ info3;refine nY Tryz.func37 rfl rfl [(0,ae p xs.length c)] ⟨jB rfl,trivial⟩ fun a W hF hw=>?_;refine fe [(2,ae none 0 0)] hF ?_;intro a W ho hF;replace hw:=hw.tr ho;refine fe [(3,ae none 0 0)] hF ?_;intro a W ho hF;replace hw:=hw.tr ho;refine dZ ?_;refine fe [(4,ah af 0)] hF ?_;intro a W ho hF;replace hw:=hw.tr ho;refine jC ?_;rename ak=>WB;have hB:=ay WB.heap.size WB;refine wp_loop (fun a W=>∃(i:Nat) (v3:ai),i<=xs.length/\W.ownsRow WB.heap.size 3 1 v3 (qu (xs.take i)).length ((qu (xs.take i)).map (ax af))/\iw 60 a [(4,ah af (i:Int)),(3,v3),(2,ae none 0 0),(0,ae p xs.length c)]/\Bw WB W) (fun a _=>xs.length-(intOf (a.eval (aD 4))).toNat) ⟨0,ae none 0 0,fF _,dw _ _ _ _,⟨hF.size,hF.defers,hF.base⟩,hB⟩ ?_;clear hF hB;rintro a W ⟨i,v3,hiL,hown,hF,hB⟩;have hk4:a.eval (aD 4)=ah af (i:Int):=(hF.g 0 rfl)
 obtain⟨L,hL⟩:∃L,qu (xs.take i)=L:=⟨_,rfl⟩
 rw[hL] at hown;have hLl:L.length<=i:=hL▸BK xs i;obtain⟨p3,c3,rfl⟩:=bP hown;replace hw:=hw.tr hB;rename ak=>WQ;have hQ:=ay WQ.heap.size WQ;have hrO:=Reads.gG hown oM sM;refine dZ ?_;refine fe [(9,aH (decide ((i:Int)<(xs.length:Int))))] hF ?_;intro a W ho hF;replace hQ:=hQ.tr ho;refine b_ (t:=(decide ((i:Int)<(xs.length:Int)))) (hF.g 0 rfl) (fun Ti=>?_) (fun Ti=>?_)
 .replace hF:=hF.tl;have hlt:i<xs.length:=by simpa using Ti
  obtain⟨x,hxi⟩:∃x,xs[i]=x:=⟨_,rfl⟩
  have Nh:=hF
  obtain⟨g,off,rfl,KN⟩:∃g off,p=some ⟨g,off,none⟩/\∀w9,Bw w w9->w9.cell? ⟨g,off+i,none⟩=some (ah af x):=by
   rcases hx with⟨_,h0,_⟩|⟨g,off,cap,h0,_,hg,h4⟩
   .omega
   cases h0;exact⟨g,off,rfl,fun w9 h9=>(h9.cell (p:=⟨g,off+i,none⟩) hg).trans (h4 i _ (by rw[jU,bT hlt,hxi];rfl))⟩
  replace hF:=Nh;clear Nh;refine eN ?_;refine dZ ?_;refine jC ?_;refine fe [(5,ah af 0)] hF ?_;intro a W ho hF;replace hQ:=hQ.tr ho;refine dZ ?_;refine wp_mono (Q:=fun e a W=>e=.normal/\∃k:Nat,k<=L.length/\(∀(j:Nat) (h:j<L.length),j<k->L[j]<x)/\(∀h:k<L.length,¬L[k]<x)/\iw 60 a [(5,ah af (k:Int)),(4,ah af (i:Int)),(3,ae p3 L.length c3),(2,ae none 0 0),(0,ae (some ⟨g,off,none⟩) xs.length c)]/\Bw WQ W) ?_ ?_
  .refine jC ?_;refine wp_loop (fun a W=>∃k:Nat,k<=L.length/\(∀(j:Nat) (h:j<L.length),j<k->L[j]<x)/\iw 60 a [(5,ah af (k:Int)),(4,ah af (i:Int)),(3,ae p3 L.length c3),(2,ae none 0 0),(0,ae (some ⟨g,off,none⟩) xs.length c)]/\Bw WQ W) (fun a _=>L.length-(intOf (a.eval (aD 5))).toNat) ⟨0,fF _,fun j _ h=>absurd h (Nat.not_lt_zero _),⟨hF.size,hF.defers,hF.base⟩,hQ⟩ ?_;clear hF hQ;rintro a W ⟨k,Rh,hjk,hF,hQ⟩;have hk5:a.eval (aD 5)=ah af (k:Int):=(hF.g 0 rfl)
   by_cases hkn:k<L.length
   .obtain⟨y,hy⟩:∃y,L[k]=y:=⟨_,rfl⟩
    have Nh:=hF
    obtain⟨g3,o3,rfl,F2⟩:∃g3 o3,p3=some ⟨g3,o3,none⟩/\∀w9,Bw WQ w9->w9.cell? ⟨g3,o3+k,none⟩=some (ah af y):=by
     rcases hrO with⟨_,h0,_⟩|⟨g,off,cap,h0,_,hg,h4⟩
     .omega
     cases h0;exact⟨g,off,rfl,fun w9 h9=>(h9.cell (p:=⟨g,off+k,none⟩) hg).trans (h4 k _ (by rw[jU,bT hkn,hy];rfl))⟩
    replace hF:=Nh;clear Nh;refine dZ ?_;refine DV kQ ⟨[(4,true)],[(3,aH true),(7,pv g3 (o3+k)),(8,ah af y),(11,pv g (off+i)),(12,ah af x)],[],[]⟩ [(26,aH (decide (y<x)))] hF trivial ⟨fun w1 hS _=>ge (congrArg jM (show(decide ((k:Int)<(L.length:Int)))=true from decide_eq_true oM)),fun w1 hS _=>gs (eX 25 (ae (some ⟨g3,o3,none⟩) L.length c3) (ah af (k:Int))) (by have Bv:¬(L.length<=k):=(by omega);go_simp),fun w1 hS _=>gl (F2 w1 (hQ.tr hS)),fun w1 hS _=>gs (eX 25 (ae (some ⟨g,off,none⟩) xs.length c) (ah af (i:Int))) (by have Zg:¬(xs.length<=i):=(by omega);go_simp),fun w1 hS _=>gl (KN w1 (hw.tr (hQ.tr hS))),trivial⟩ ?_;intro a W ho hF;replace hQ:=hQ.tr ho;refine b_ (t:=(decide (y<x))) (hF.g 0 rfl) (fun acn=>?_) (fun acn=>?_)
    .replace hF:=hF.tl;refine eN ?_;refine jC ?_;have qo:=hF;replace hF:=hF.tl;refine Ou ⟨[],[(1,ah af ((k:Int)+1))],[],[]⟩ [(5,ah af ((k:Int)+1))] qo hF trivial ⟨fun w1 hS _=>ge (congrArg (ax af) (show IntKind.i64.wrap ((k:Int)+1)=((k:Int)+1) by rw[bp];omega)),trivial⟩ ?_;intro a W ho hF;clear qo;replace hQ:=hQ.tr ho;refine⟨⟨k+1,oM,fun j h hj=>?_,⟨hF.size,hF.defers,hF.base⟩,hQ⟩,?_⟩
     .rcases Nat.lt_or_ge j k with h1|h1
      .exact hjk j h h1
      obtain rfl:j=k:=oM;rw[hy];simpa using acn
     rw[show a.eval (aD 5)=ah af ((k:Int)+1) from(hF.g 0 rfl)];simp only[hk5];simp[intOf];omega
    replace hF:=hF.tl;refine wp_exit ?_;exact(show _/\_ from⟨rfl,k,Rh,hjk,fun _=>by rw[hy];simpa using acn,⟨hF.size,hF.defers,hF.base⟩,hQ⟩)
   refine dZ ?_;refine DV kQ ⟨[(4,false)],[(3,aH false)],[],[]⟩ [(26,aH false)] hF trivial ⟨fun w1 hS _=>ge (congrArg jM (show(decide ((k:Int)<(L.length:Int)))=false from decide_eq_false oM)),trivial⟩ ?_;intro a W ho hF;replace hQ:=hQ.tr ho;refine wp_cond (t:=false) (hF.g 0 rfl) ?_;replace hF:=hF.tl;refine wp_exit ?_;exact(show _/\_ from⟨rfl,k,Rh,hjk,fun h=>absurd h hkn,⟨hF.size,hF.defers,hF.base⟩,hQ⟩)
  rintro e a W ⟨rfl,k,Rh,hjk,kq,hF,hQ⟩
  by_cases hyx:∃h:k<L.length,L[k]=x
  .obtain⟨hkn,hLk⟩:=hyx;obtain⟨y,hy⟩:∃y,L[k]=y:=⟨_,rfl⟩
   have Nh:=hF
   obtain⟨g3,o3,rfl,F2⟩:∃g3 o3,p3=some ⟨g3,o3,none⟩/\∀w9,Bw WQ w9->w9.cell? ⟨g3,o3+k,none⟩=some (ah af y):=by
    rcases hrO with⟨_,h0,_⟩|⟨g,off,cap,h0,_,hg,h4⟩
    .omega
    cases h0;exact⟨g,off,rfl,fun w9 h9=>(h9.cell (p:=⟨g,off+k,none⟩) hg).trans (h4 k _ (by rw[jU,bT hkn,hy];rfl))⟩
   replace hF:=Nh;clear Nh;obtain rfl:x=y:=by rw[<-hLk,hy]
   refine DV kQ ⟨[(4,false)],[(3,aH false),(7,pv g3 (o3+k)),(8,ah af x),(11,pv g (off+i)),(12,ah af x),(13,aH false)],[],[]⟩ [(43,aH false)] hF trivial ⟨fun w1 hS _=>ge (congrArg jM (show((k:Int)==(L.length:Int))=false from beq_false_of_ne oM)),fun w1 hS _=>gs (eX 25 (ae (some ⟨g3,o3,none⟩) L.length c3) (ah af (k:Int))) (by have Bv:¬(L.length<=k):=(by omega);go_simp),fun w1 hS _=>gl (F2 w1 (hQ.tr hS)),fun w1 hS _=>gs (eX 25 (ae (some ⟨g,off,none⟩) xs.length c) (ah af (i:Int))) (by have Zg:¬(xs.length<=i):=(by omega);go_simp),fun w1 hS _=>gl (KN w1 (hw.tr (hQ.tr hS))),fun w1 hS _=>ge (congrArg jM (show(!(x==x))=false from by simp)),trivial⟩ ?_;intro a W ho hF;replace hQ:=hQ.tr ho;refine wp_cond (t:=false) (hF.g 0 rfl) ?_;replace hF:=hF.tl;refine eN ?_;have FW:W.ownsRow WB.heap.size 3 1 (ae (some ⟨g3,o3,none⟩) L.length c3) (ni x L).length ((ni x L).map (ax af)):=by rw[Vy hkn hjk kq hy];exact a8 hown hQ
   have qo:=hF;replace hF:=hF.del 4;simp only[lQ,ic,bR,reduceIte] at hF;refine Ou ⟨[],[(1,ah af ((i:Int)+1))],[],[]⟩ [(4,ah af ((i:Int)+1))] qo hF trivial ⟨fun w1 hS _=>ge (congrArg (ax af) (show IntKind.i64.wrap ((i:Int)+1)=((i:Int)+1) by rw[bp];omega)),trivial⟩ ?_;intro a W ho hF;clear qo;replace hQ:=hQ.tr ho;replace FW:=a8 FW ho;refine⟨⟨i+1,_,oM,by rw[uQ xs i hlt,hxi,hL];exact FW,⟨hF.size,hF.defers,(by obtain⟨b4,-,b3,b2,b0,-⟩:=hF.base;exact⟨b4,b3,b2,b0,trivial⟩)⟩,(hB.tr hQ)⟩,?_⟩;rw[show a.eval (aD 4)=ah af ((i:Int)+1) from(hF.g 0 rfl)];simp only[hk4];simp[intOf];omega
  refine dZ ?_;refine wp_mono (Q:=fun e a W=>e=.normal/\iw 60 a [(43,aH true),(5,ah af (k:Int)),(4,ah af (i:Int)),(3,ae p3 L.length c3),(2,ae none 0 0),(0,ae (some ⟨g,off,none⟩) xs.length c)]/\Bw WQ W) ?_ ?_
  .by_cases hkn:k<L.length
   .obtain⟨y,hy⟩:∃y,L[k]=y:=⟨_,rfl⟩
    have Nh:=hF
    obtain⟨g3,o3,rfl,F2⟩:∃g3 o3,p3=some ⟨g3,o3,none⟩/\∀w9,Bw WQ w9->w9.cell? ⟨g3,o3+k,none⟩=some (ah af y):=by
     rcases hrO with⟨_,h0,_⟩|⟨g,off,cap,h0,_,hg,h4⟩
     .omega
     cases h0;exact⟨g,off,rfl,fun w9 h9=>(h9.cell (p:=⟨g,off+k,none⟩) hg).trans (h4 k _ (by rw[jU,bT hkn,hy];rfl))⟩
    replace hF:=Nh;clear Nh;have hyn:y≠x:=fun e=>hyx ⟨hkn,by rw[hy,e]⟩;refine Qf kQ ⟨[(4,false)],[(3,aH false),(7,pv g3 (o3+k)),(8,ah af y),(11,pv g (off+i)),(12,ah af x),(13,aH true)],[],[]⟩ [(43,aH true)] hF trivial ⟨fun w1 hS _=>ge (congrArg jM (show((k:Int)==(L.length:Int))=false from beq_false_of_ne oM)),fun w1 hS _=>gs (eX 25 (ae (some ⟨g3,o3,none⟩) L.length c3) (ah af (k:Int))) (by have Bv:¬(L.length<=k):=(by omega);go_simp),fun w1 hS _=>gl (F2 w1 (hQ.tr hS)),fun w1 hS _=>gs (eX 25 (ae (some ⟨g,off,none⟩) xs.length c) (ah af (i:Int))) (by have Zg:¬(xs.length<=i):=(by omega);go_simp),fun w1 hS _=>gl (KN w1 (hw.tr (hQ.tr hS))),fun w1 hS _=>ge (congrArg jM (show(!(y==x))=true from by simp[hyn])),trivial⟩ ?_;intro a W ho hF;replace hQ:=hQ.tr ho;exact(show _/\_ from⟨rfl,⟨hF.size,hF.defers,hF.base⟩,hQ⟩)
   refine Qf kQ ⟨[(4,true)],[(3,aH true)],[],[]⟩ [(43,aH true)] hF trivial ⟨fun w1 hS _=>ge (congrArg jM (show((k:Int)==(L.length:Int))=true from by simp;omega)),trivial⟩ ?_;intro a W ho hF;replace hQ:=hQ.tr ho;exact(show _/\_ from⟨rfl,⟨hF.size,hF.defers,hF.base⟩,hQ⟩)
  rintro e a W ⟨rfl,hF,hQ⟩;refine wp_cond (t:=true) (hF.g 0 rfl) ?_;replace hF:=hF.tl;have amz:L.length<=20:=oM
  have Pz:(p3=none/\L.length=0/\c3=0)\/∃g off,p3=some ⟨g,off,none⟩/\L.length<=c3:=by
   rcases hrO with⟨h0,h1,_⟩|⟨g,off,cap,h0,h1,_⟩
   .injection h0 with e1 e2 e3;exact bV ⟨e1,h1,e3⟩
   cases h0;exact .inr ⟨g,off,rfl,h1.2⟩
  have hrk:Reads WQ (ae p3 k c3) k ((L.take k).map (ax af)):=by
   rcases hrO with⟨h0,h1,h2⟩|⟨g,off,cap,h0,h1,h2,h3⟩
   .injection h0 with e1 e2 e3
    obtain rfl:k=0:=oM;exact bV ⟨by rw[e1,e3],rfl,rfl⟩
   cases h0;refine .inr ⟨g,off,c3,rfl,⟨oM,oM⟩,h2,fun j u hj=>h3 j u ?_⟩;rw[List.map_take,List.getElem?_take] at hj;split at hj
   .exact hj
   cases hj
  obtain⟨sv,hsv,BX⟩:=OH hrO k Rh;have hQ0:=hQ;have e3:a.eval (aD 3)=ae p3 L.length c3:=(hF.g 2 rfl)
  refine TJ (late:=[(15,3,ae p3 L.length c3)]) kQ [
  fun v ds w9=>∃q,v=ae (some ⟨q,0,none⟩) 0 0/\w9.ownsRow W.heap.size 3 1 v 0 [],
   fun v ds w9=>v=ae p3 L.length c3,
   fun v ds w9=>v=ah af (k:Int),
   fun v ds w9=>v=ae p3 k c3,
   fun v ds w9=>∃p c,v=ae p k c/\w9.ownsRow W.heap.size 3 1 v k ((L.take k).map (ax af))/\(k=0->c=0),
   fun v ds w9=>v=ae (some ⟨g,off,none⟩) xs.length c,
   fun v ds w9=>v=ah af (i:Int),
   fun v ds w9=>v=pv g (off+i),
   fun v ds w9=>v=ah af x,
   fun v ds w9=>∃q,v=ae (some ⟨q,0,none⟩) 1 1/\w9.ownsRow W.heap.size 3 1 v 1 [ah af x],
   fun v ds w9=>∃p c,v=ae p (k+1) c/\w9.ownsRow W.heap.size 3 1 v (k+1) (((L.take k).map (ax af))++[ah af x]),
   fun v ds w9=>v=ae p3 L.length c3,
   fun v ds w9=>v=ah af (k:Int),
   fun v ds w9=>v=sv,
   fun v ds w9=>∃p c,v=ae p (L.length+1) c/\w9.ownsRow W.heap.size 3 1 v (L.length+1) (((L.take k).map (ax af))++[ah af x]++((L.drop k).map (ax af))),
   fun v ds w9=>∃p c,v=ae p (L.length+1) c/\w9.ownsRow W.heap.size 3 1 v (L.length+1) (((L.take k).map (ax af))++[ah af x]++((L.drop k).map (ax af)))]
   (fun _ w9=>Bw W w9) [(0,ae (some ⟨g,off,none⟩) xs.length c),(4,ah af (i:Int)),(5,ah af (k:Int))] kQ hF.size ?rst (fun _ _ w1 w2 _ h hb=>h.trans (hb.mono h.size)) ((ay _ _).drew) (by obtain⟨b5,b4,-,-,b0,-⟩:=hF.base;exact⟨b0,b4,b5,trivial⟩) ⟨⟨rfl,e3⟩,trivial⟩ ?reach ?rfin
  case rst=>
   refine⟨?_,Ph.kS,Ph.kS,Ph.kS,?_,Ph.kS,Ph.kS,Ph.kS,Ph.kS,?_,?_,Ph.kS,Ph.kS,Ph.kS,?_,?_,trivial⟩
   .rintro v ds L9 w1 w2 hS ⟨q,h1,h2⟩ hb;exact⟨q,h1,a8 h2 hb⟩
   .rintro v ds L9 w1 w2 hS ⟨p,c,h1,h2,h3⟩ hb;exact⟨p,c,h1,a8 h2 hb,h3⟩
   .rintro v ds L9 w1 w2 hS ⟨q,h1,h2⟩ hb;exact⟨q,h1,a8 h2 hb⟩
   .rintro v ds L9 w1 w2 hS ⟨p,c,h1,h2⟩ hb;exact⟨p,c,h1,a8 h2 hb⟩
   .rintro v ds L9 w1 w2 hS ⟨p,c,h1,h2⟩ hb;exact⟨p,c,h1,a8 h2 hb⟩
   rintro v ds L9 w1 w2 hS ⟨p,c,h1,h2⟩ hb;exact⟨p,c,h1,a8 h2 hb⟩
  case reach=>
   refine⟨?_,?_,?_,?_,?_,?_,?_,?_,?_,?_,?_,?_,?_,?_,?_,?_,trivial⟩
   .intro Lf ev w1 hn nG hS hc hg hf hb hd;obtain⟨b0,b4,b5,hl3,-⟩:=hb;refine yN (v:=ae (some ⟨w1.heap.size,0,none⟩) 0 0) (w':=w1.alloc (ar #[] 3)) ?_ ⟨⟨_,rfl,⟨sM,.inr ⟨w1.heap.size,0,#[],rfl,hS.size,aw _ _,aJ _,fF _,sM,sM⟩⟩⟩,bV dF⟩;go_simp
   .intro Lf ev w1 hn nG hS hc hg hf hb hd;obtain⟨b0,b4,b5,hl3,-⟩:=hb;have b3:ev (aD 3)=_:=hl3 (hn 15 kQ);exact Ph.t9
   .intro Lf ev w1 hn nG hS hc hg hf hb hd;obtain⟨b0,b4,b5,hl3,-⟩:=hb;exact Ph.t9
   .intro Lf ev w1 hn nG hS hc hg hf hb hd;obtain⟨b0,b4,b5,hl3,-⟩:=hb;have d1:(ev (aD 45))=ae p3 L.length c3:=hd.1 rfl;have d2:(ev (aD 46))=ah af (k:Int):=hd.2.1 rfl;refine yN (v:=(ae p3 k c3:ai)) (w':=w1) ?_ ⟨rfl,bV (ay _ _)⟩;exact Ie rfl d1 d2 (R9 Pz k Rh w1)
   .intro Lf ev w1 hn nG hS hc hg hf hb hd;obtain⟨b0,b4,b5,hl3,-⟩:=hb;have d0:∃q,(ev (aD 44))=ae (some ⟨q,0,none⟩) 0 0/\w1.ownsRow W.heap.size 3 1 (ev (aD 44)) 0 []:=hd.1 rfl;have d3:(ev (aD 47))=ae p3 k c3:=hd.2.1 rfl;obtain⟨q,e44,hq⟩:=d0;rw[e44] at hq;obtain⟨g5,c5,cur,h1,h2,h3,_,_,h4,_⟩:=hq.2.resolve_left sM;cases h1;obtain rfl:cur = #[]:=Array.eq_empty_of_size_eq_zero (by simpa using h4);refine Lag.Yields.append_empty (aD 44) (aD 47) 25 rfl W.heap.size 3 i0 (ah af 0) 1 8 dt hi hz0 hz1 hz2 rfl dC q e44 h3 h2 (ae p3 k c3) k ((L.take k).map (ax af)) d3 (by rw[eJ,List.length_take];omega) (hrk.below (hQ0.tr hS)).src (Ak _) (by unfold gP;omega) oM ?_;intro v' w' hown' hb' hz;obtain⟨p',c',rfl⟩:=bP hown';exact⟨⟨p',c',rfl,hown',fun h0=>by have:=hz h0;simp at this;exact this.2.2⟩,bV hb'⟩
   .intro Lf ev w1 hn nG hS hc hg hf hb hd;obtain⟨b0,b4,b5,hl3,-⟩:=hb;refine Yields.value (v:=(ae (some ⟨g,off,none⟩) xs.length c:ai)) (w':=w1) ?_ ⟨rfl,bV (ay _ _)⟩;go_simp
   .intro Lf ev w1 hn nG hS hc hg hf hb hd;obtain⟨b0,b4,b5,hl3,-⟩:=hb;exact Ph.t9
   .intro Lf ev w1 hn nG hS hc hg hf hb hd;obtain⟨b0,b4,b5,hl3,-⟩:=hb;have d5:(ev (aD 49))=ae (some ⟨g,off,none⟩) xs.length c:=hd.1 rfl;have d6:(ev (aD 50))=ah af (i:Int):=hd.2.1 rfl;have Zg:¬(xs.length<=i):=oM;exact Ph.t9
   .intro Lf ev w1 hn nG hS hc hg hf hb hd;obtain⟨b0,b4,b5,hl3,-⟩:=hb;have d7:(ev (aD 51))=pv g (off+i):=hd.1 rfl;have z:=KN w1 (((hw.tr hQ)).tr hS);exact Ph.t9
   .intro Lf ev w1 hn nG hS hc hg hf hb hd;obtain⟨b0,b4,b5,hl3,-⟩:=hb;have d8:(ev (aD 52))=ah af x:=hd.1 rfl;refine yN (v:=ae (some ⟨w1.heap.size,0,none⟩) 1 1) (w':=w1.alloc (ar #[ah af x] 3)) ?_ ⟨⟨_,rfl,World.ownsRow_lit w1 #[ah af x] 1 hS.size (by unfold gP;omega) rfl⟩,bV dF⟩;go_simp
   .intro Lf ev w1 hn nG hS hc hg hf hb hd;obtain⟨b0,b4,b5,hl3,-⟩:=hb;have d4:∃p c,(ev (aD 48))=ae p k c/\w1.ownsRow W.heap.size 3 1 (ev (aD 48)) k ((L.take k).map (ax af))/\(k=0->c=0):=hd.1 rfl;have d9:∃q,(ev (aD 53))=ae (some ⟨q,0,none⟩) 1 1/\w1.ownsRow W.heap.size 3 1 (ev (aD 53)) 1 [ah af x]:=hd.2.1 rfl;obtain⟨p,c,Eh,Dx,hz⟩:=d4;obtain⟨q,Uj,hq⟩:=d9;rw[Eh] at Dx;rw[Uj] at hq;obtain⟨g5,c2,cur,h1,h2,h3,_,_,h4,h5⟩:=hq.2.resolve_left sM;cases h1
    have acd:cur = #[ah af x]:=by
     apply Array.ext';have h6:cur.toList.length=1:=by simpa using h4
     rw[cQ oM] at h5;exact h5
    subst acd;refine Lag.Yields.zI (aD 48) (aD 53) 25 rfl W.heap.size 3 i0 (ah af 0) 1 8 dt hi hz0 hz1 hz2 rfl dC (ae p k c) k ((L.take k).map (ax af)) Eh Dx (ae (some ⟨q,0,none⟩) 1 1) 1 [ah af x] Uj rfl (.inr ⟨_,_,rfl,?_⟩) (by simp[bJ]) (by unfold gP;omega) oM hS.size ?_
    .intro n u hn;have h5:=aF h3 n u (by simpa using hn);have e:(⟨q,0,none⟩:dc).add n=⟨q,n,none⟩:=by cases n<;>simp[jh]
     rw[e];exact h5
    intro v' w' hown' hgrow jx;obtain⟨p',c',rfl⟩:=bP hown';refine⟨⟨p',c',rfl,hown'⟩,.inr ⟨hS.grown hgrow hS.size (fun q hq=>(Dx.lt q hq).1),?_⟩⟩;intro t u ds hj hL hp
    match t,hp with
    |0,⟨q2,h1,h2⟩=>exact⟨q2,h1,jx (fF _) h2⟩
    |1,hp|2,hp|3,hp=>exact hp
    |4,⟨p2,c2,h1,h2,h3⟩=>exact⟨p2,c2,h1,jx (aJ _) h2,h3⟩
    |5,hp|6,hp|7,hp|8,hp=>exact hp
    |9,⟨q2,h1,h2⟩=>
     refine⟨q2,h1,?_⟩
     by_cases h0:k=0
     .have hc:=hz h0;refine dY h2 fun g2 hg2=>hgrow.block g2 (h2.lt g2 hg2).2 fun Cc=>?_;rw[h1] at h2;obtain⟨g3,c3,akt,k1,_,k3,_,_,k4,_⟩:=h2.2.resolve_left sM;cases k1;have e2:q2=g2:=by rw[h1] at hg2;exact aT hg2
      subst e2;rcases Dx.2 with⟨k5,_⟩|⟨g4,c4,aks,k5,_,k6,_,_,k7,_⟩
      .rw[k5] at Cc;cases Cc
      cases k5;have e4:q2=g4:=aT Cc;subst e4;rw[k3] at k6;cases k6;omega
     exact jx oM h2
    |10,_=>exact(hj rfl).elim
    |11,hp|12,hp|13,hp=>exact hp
    |14,_=>rw[hn 14 kQ] at hL;cases hL
    |15,_=>rw[hn 15 kQ] at hL;cases hL
    |t+16,_=>trivial
   .intro Lf ev w1 hn nG hS hc hg hf hb hd;obtain⟨b0,b4,b5,hl3,-⟩:=hb;have b3:ev (aD 3)=_:=hl3 (hn 15 kQ);exact Ph.t9
   .intro Lf ev w1 hn nG hS hc hg hf hb hd;obtain⟨b0,b4,b5,hl3,-⟩:=hb;exact Ph.t9
   .intro Lf ev w1 hn nG hS hc hg hf hb hd;obtain⟨b0,b4,b5,hl3,-⟩:=hb;have d11:(ev (aD 55))=ae p3 L.length c3:=hd.1 rfl;have d12:(ev (aD 56))=ah af (k:Int):=hd.2.1 rfl;refine yN (v:=sv) (w':=w1) ?_ ⟨rfl,bV (ay _ _)⟩;exact Ef rfl d11 d12 (hsv w1)
   .intro Lf ev w1 hn nG hS hc hg hf hb hd;obtain⟨b0,b4,b5,hl3,-⟩:=hb;have d10:∃p c,(ev (aD 54))=ae p (k+1) c/\w1.ownsRow W.heap.size 3 1 (ev (aD 54)) (k+1) (((L.take k).map (ax af))++[ah af x]):=hd.1 rfl;have d13:(ev (aD 57))=sv:=hd.2.1 rfl;obtain⟨p,c,Eh,Dx⟩:=d10;rw[Eh] at Dx;refine Lag.Yields.zI (aD 54) (aD 57) 25 rfl W.heap.size 3 i0 (ah af 0) 1 8 dt hi hz0 hz1 hz2 rfl dC (ae p (k+1) c) (k+1) (((L.take k).map (ax af))++[ah af x]) Eh Dx sv (L.length-k) ((L.drop k).map (ax af)) d13 (by rw[eJ,List.length_drop,Nat.mul_one]) (BX _ (hQ0.tr hS)) (Ak _) (by unfold gP;omega) oM hS.size ?_;intro v' w' hown' hgrow jx;rw[show k+1+(L.length-k)=L.length+1 by omega] at hown';obtain⟨p',c',rfl⟩:=bP hown';refine⟨⟨p',c',rfl,hown'⟩,.inr ⟨hS.grown hgrow hS.size (fun q hq=>(Dx.lt q hq).1),?_⟩⟩;intro t u ds hj hL hp
    match t,hp with
    |0,⟨q2,h1,h2⟩=>exact⟨q2,h1,jx (fF _) h2⟩
    |1,hp|2,hp|3,hp=>exact hp
    |4,⟨p2,c2,h1,h2,h3⟩=>exact⟨p2,c2,h1,jx oM h2,h3⟩
    |5,hp|6,hp|7,hp|8,hp=>exact hp
    |9,⟨q2,h1,h2⟩=>exact⟨q2,h1,jx oM h2⟩
    |10,⟨p2,c2,h1,h2⟩=>exact⟨p2,c2,h1,jx (aJ _) h2⟩
    |11,hp|12,hp|13,hp=>exact hp
    |14,_=>exact(hj rfl).elim
    |15,_=>rw[hn 15 kQ] at hL;cases hL
    |t+16,_=>trivial
   intro Lf ev w1 hn nG hS hc hg hf hb hd;obtain⟨b0,b4,b5,hl3,-⟩:=hb;have d14:∃p c,(ev (aD 58))=ae p (L.length+1) c/\w1.ownsRow W.heap.size 3 1 (ev (aD 58)) (L.length+1) (((L.take k).map (ax af))++[ah af x]++((L.drop k).map (ax af))):=hd.1 rfl;have d1:(ev (aD 45))=ae p3 L.length c3:=hd.2.2.2.1 rfl;obtain⟨p,c,h1,h2⟩:=d14;exact yN (v:=ev (aD 58)) (w':=w1) rfl ⟨⟨p,c,h1,h2⟩,bV (ay _ _)⟩
  case rfin=>
   intro a W9 hR;have hS:Bw W W9:=hR.s;obtain⟨p58,c58,e58,VM⟩:=hR.val 15;replace e58:a.eval (aD 3)=_:=e58;replace VM:W9.ownsRow W.heap.size 3 1 (a.eval (aD 3)) _ _:=VM;rw[e58] at VM;replace hF:=hF.del 3;simp only[lQ,ic,bR,reduceIte] at hF;replace hF:=(hR.fr hF kQ).cons (t:=3) e58
   have FW:W9.ownsRow WB.heap.size 3 1 (ae p58 (L.length+1) c58) (ni x L).length ((ni x L).map (ax af)):=by
    have he:=abD Rh hjk kq hyx;have hl2:(ni x L).length=L.length+1:=by rw[he];simp;omega
    rw[hl2,he];refine jn ?_ ((hB.tr hQ)).size;simpa using VM
   replace hQ:=hQ.tr hS;clear hR e58 VM hS hQ0;rename ak=>W;have qo:=hF;replace hF:=hF.del 4;simp only[lQ,ic,bR,reduceIte] at hF;refine Ou ⟨[],[(1,ah af ((i:Int)+1))],[],[]⟩ [(4,ah af ((i:Int)+1))] qo hF trivial ⟨fun w1 hS _=>ge (congrArg (ax af) (show IntKind.i64.wrap ((i:Int)+1)=((i:Int)+1) by rw[bp];omega)),trivial⟩ ?_;intro a W ho hF;clear qo;replace hQ:=hQ.tr ho;replace FW:=a8 FW ho;refine⟨⟨i+1,_,oM,by rw[uQ xs i hlt,hxi,hL];exact FW,⟨hF.size,hF.defers,(by obtain⟨b4,b3,-,b2,b0,-⟩:=hF.base;exact⟨b4,b3,b2,b0,trivial⟩)⟩,(hB.tr hQ)⟩,?_⟩;rw[show a.eval (aD 4)=ah af ((i:Int)+1) from(hF.g 0 rfl)];simp only[hk4];simp[intOf];omega
 replace hF:=hF.tl;refine wp_exit ?_;obtain rfl:i=xs.length:=by simp at Ti;omega
 rw[IG] at hL;replace hF:=hF.del 2;simp only[lQ,ic,bR,reduceIte] at hF;refine fe [(2,ae p3 L.length c3)] hF ?_;intro a W ho hF;replace hQ:=hQ.tr ho;refine fQ ?_;exact bodyPost_ret (cg rfl _ _ _) hF.defers ⟨_,congrArg Ending.returned (show a.eval (aD 2)=_ from(hF.g 0 rfl)),by rw[hL];exact hrO.below hQ,(hw.tr hQ)⟩
def uW{P:Program}{c:Code}{Q:Exit->Act->ak->Prop}{a:Act}{W:ak}(T:Quiet P)(hQ:∀e a w,Q e a w->rG e=true)(h:∀W',Old W W'->c.wp P Q a W'):wD P c Q a W:=lU T hQ fun I d=>h _ (m8 W I d)
def JS{P:Program}{Q:Exit->Act->ak->Prop}{a:Act}{W:ak}(T:Quiet P)(hQ:∀e a w,Q e a w->rG e=true)(h:∀W',Old W W'->Q .normal a W'):wD P .skip Q a W:=wC T hQ fun I d=>h _ (m8 W I d)
structure MoS(V:ak)(B C:Nat)(L1 L2:Bool)(w:ak):Prop where
 old:Old V w
 k:L1=false->∃x,w.heap[B]?=some (ar x 28 (0,0))/\x.size=15
 l:L2=false->∃x,w.heap[C]?=some (ar x 42 (0,0))/\x.size=2
def MoS.next{V w1 w2:ak}{B C:Nat}{L1 L2 L1' L2':Bool}(h1:L1'=false->L1=false)(h2:L2'=false->L2=false)(h:MoS V B C L1 L2 w1)(hb:Bw w1 w2):MoS V B C L1' L2' w2:=
 ⟨h.old.trans (Old.of_below hb),fun e=>(h.k (h1 e)).imp fun x hx=>⟨aA hx.1 hb,hx.2⟩,fun e=>(h.l (h2 e)).imp fun x hx=>⟨aA hx.1 hb,hx.2⟩⟩
def MoS.drew{V w:ak}{B C:Nat}{L1 L2:Bool}(h:MoS V B C L1 L2 w):MoS V B C L1 L2 w.drew:=h.next id id (ay _ _).drew
def Ms{w1 w2:ak}{base:Nat}{e:aV}{size:Nat}{v:ai}{n:Nat}{xs:List ai}(h:w1.ownsRow base e size v n xs)(hb:Old w1 w2):w2.ownsRow base e size v n xs:=dY h fun g hg=>hb.block g (h.lt g hg).2
def tk{w w1:ak}{B n:Nat}{v:ai}{L:List Int}(h:w.ownsRow B 3 1 v n (L.map (ax af)))(hl:L.length=n)(hn:n<=20)(ho:Old w w1):Reads w1 v n (L.map (ax af)):=(Reads.gG h oM (by simp[hl])).old ho
def ZA(n i:Nat)(hn:n<=3)(p:Option dc)(c:Nat)(w:ak)(h:Reads w (ae p n c) n ((si n).map (ax af))):Calls aq 40 #[ae p n c,ah af (i:Int)] w fun e w'=>∃v,e=.returned v/\w'.ownsRow w.heap.size 3 1 v (yG n i).length ((yG n i).map fun j=>ax af (j:Nat))/\Bw w w':=by
 have hl:=IW n;have h2:=WX (si n) oM p c i w (by rw[hl];exact h);rw[TI,hl,eJ,List.map_map] at h2;exact h2
def aem{w:ak}{B:Nat}{v:ai}{ix:List Nat}(h:w.ownsRow B 3 1 v ix.length (ix.map fun j=>ax af (j:Nat)))(hl:ix.length<=3):Reads w v ix.length (ix.map fun j=>ax af (j:Nat)):=Reads.gG h oM sM
def abt(b:BB)(p1 p2 p3 pq:Option dc)(c1 c2 c3 nq cq:Nat)(ml:List Mn)(ss:List Int)(ms:List Mk)(pk:Nat->Nat)(x:Int)(mn mq:Nat)(hmn:mn<256)(hmq:mq<256){W0:ak}(hL:Laid W0)(hv:Reads W0 (ae p1 ml.length c1) ml.length (dX ml))(hu:Reads W0 (ae p2 ss.length c2) ss.length (ss.map (ax af)))(hk:Reads W0 (ae p3 ms.length c3) ms.length (ep ms))(Hi:sZ W0 pq nq cq pk):ko aq 5 #[aO (b.sl p1 ml.length c1 p2 ss.length c2 p3 ms.length c3),ae pq nq cq,ah .u16 x,ah .u8 (mn:Int),ah .u8 (mq:Int)] W0 fun v W'=>v=aH true/\Old W0 W':=by
 refine lz quiet Tryz.func5 rfl ?hR ?body
 case hR=>
  rintro v W' I d ⟨h1,h2⟩;exact⟨h1,xI h2⟩
 have hF:=Ga (args:=#[aO (b.sl p1 ml.length c1 p2 ss.length c2 p3 ms.length c3),ae pq nq cq,ah .u16 x,ah .u8 (mn:Int),ah .u8 (mq:Int)]) (n:=192) sM [(4,ah .u8 (mq:Int)),(3,ah .u8 (mn:Int)),(2,ah .u16 x),(1,ae pq nq cq),(0,aO (b.sl p1 ml.length c1 p2 ss.length c2 p3 ms.length c3))] ⟨jB rfl,jB rfl,jB rfl,jB rfl,jB rfl,trivial⟩;rw[show Tryz.f5.ntmps=192 from rfl];generalize (⟨#[aO (b.sl p1 ml.length c1 p2 ss.length c2 p3 ms.length c3),ae pq nq cq,ah .u16 x,ah .u8 (mn:Int),ah .u8 (mq:Int)]++bz (192-(#[aO (b.sl p1 ml.length c1 p2 ss.length c2 p3 ms.length c3),ae pq nq cq,ah .u16 x,ah .u8 (mn:Int),ah .u8 (mq:Int)]:Array ai).size) au,[]⟩:Act)=a at *;refine(fun h:∀W,Old W0 W->wD aq _ (I9 aq Tryz.f5 fun v W'=>v=aH true/\Old W0 W') a W=>h W0 (Old.refl W0)) ?_;intro W h0;refine mg quiet (N:=2) rfl ?_;refine px quiet ⟨[],[],[],[]⟩ (some 5) (fun B=>pv B 0) (b.sl p1 ml.length c1 p2 ss.length c2 p3 ms.length c3) 28 hF hF ?_;intro B5 W a G5 ho K5 hF;have acS:=aG h0.size G5;replace h0:=h0.trans ho;rename ak=>W5;have h5:=Old.refl W5;refine dG quiet 1 1 0 ⟨[],[],[],[]⟩ [(10,aH false)] hF hF trivial trivial ?_;intro a W ho hF;replace h5:=h5.trans ho;refine mf quiet aX ?_;refine gR quiet ?_;refine NL quiet (dA aX) ⟨[],[(1,aH (P1 b ml ss ms))],[(B5,(b.sl p1 ml.length c1 p2 ss.length c2 p3 ms.length c3))],[]⟩ [(31,aH (!(P1 b ml ss ms)))] hF hF ⟨fun w1 hS=>⟨_,_,bt K5 (h5.trans hS)⟩,trivial⟩ ⟨fun w1 hS _=>gc (args:=#[aO (b.sl p1 ml.length c1 p2 ss.length c2 p3 ms.length c3)]) (Zu b _ _ _ _ _ _ ml ss ms w1 (hv.old (h0.trans (h5.trans hS))) (hu.old (h0.trans (h5.trans hS))) (hk.old (h0.trans (h5.trans hS)))),trivial⟩ ?_;intro a W ho hF;replace h5:=h5.trans ho;refine IK quiet (t:=(!(P1 b ml ss ms))) (hF.g 0 rfl) (fun Tj=>?_) (fun Tj=>?_)
 .replace hF:=hF.tl;replace hF:=hF.tl;refine ckX quiet (dA aX) 0 ⟨[],[(0,aH true)],[],[]⟩ rfl [(10,aH true)] hF hF trivial ⟨fun w1 hS _=>gv (vq (hL.old (h0.trans (h5.trans hS)))) kQ,trivial⟩ ?_;intro a W ho hF;replace h5:=h5.trans ho;exact lU quiet (dA aX) fun I d=>fQ ⟨hF.defers,_,cg rfl _ _ _,(hF.g 0 rfl),nQ I d (h0.trans h5)⟩
 replace hF:=hF.tl;have VZ:P1 b ml ss ms=true:=by simpa using Tj
 obtain⟨dp,AE,ae9,hmk⟩:=acW VZ;clear ae9 hmk;refine JS quiet (dA aX) fun W ho=>?_;replace h5:=h5.trans ho;refine mg quiet (N:=4) rfl ?_;refine dG quiet 0 1 3 ⟨[],[],[],[]⟩ [(33,pv B5 13)] hF hF trivial trivial ?_;intro a W ho hF;replace h5:=h5.trans ho;refine QP quiet ⟨[],[],[],[]⟩ (b.sl p1 ml.length c1 p2 ss.length c2 p3 ms.length c3) (b.sl p1 ml.length c1 none 0 0 p3 ms.length c3) [0] hF hF (bt K5 h5) ?_;intro W a up K5 hF;replace h0:=up _ (h0.trans h5) acS;clear up;rename ak=>JG;have ij:=Old.refl JG;refine dG quiet 2 1 1 ⟨[],[],[],[]⟩ [(34,pv B5 14)] hF hF trivial trivial ?_;intro a W ho hF;replace ij:=ij.trans ho;refine QP quiet ⟨[],[],[],[]⟩ (b.sl p1 ml.length c1 none 0 0 p3 ms.length c3) (b.br p1 ml.length c1) [0] hF hF (bt K5 ij) ?_;intro W a up K5 hF;replace h0:=up _ (h0.trans ij) acS;clear up;rename ak=>Bo;have bU:=Old.refl Bo;refine mf quiet aX ?_;replace h0:=h0.trans bU;rename ak=>WC;have hC:=Old.refl WC;have h0C:=h0;have hBk:∀w9,Old WC w9->dh b (ae p1 ml.length c1) (ae none 0 0) (ae none 0 0) ml [] [] w9:=fun w9 h9=>⟨dp,AE,eG.nil dp,wS b,hv.old (h0C.trans h9),bV ⟨rfl,rfl,rfl⟩,bV ⟨rfl,rfl,rfl⟩⟩
 have HRl:∀w9,Old WC w9->_:=fun w9 h9=>UL b dp p1 none none pq c1 0 0 0 0 nq cq ml AE pk w9 (hv.old (h0C.trans h9)) (Hi.old (h0C.trans h9));have X9:∀w9,_:=fun w9=>Mp b dp p1 none none ml.length c1 0 0 0 0 x w9;have VW:=Di dp pk;have hbl:=Dh pk ml 0;have qG:=Fl pk ml 0 fun m hm=>⟨(AE.mem m hm).2.1,(AE.mem m hm).2.2.1,(AE.mem m hm).2.2.2.1⟩
 generalize ri b pk=lk at *;generalize jc pk ml 0=br at *;rename ak=>W;obtain⟨E,hE⟩:∃E,E=W.heap.size:=⟨_,rfl⟩
 refine NF quiet kQ aX [pV (aO (b.br p1 ml.length c1)),pV (ae pq nq cq),fun v _ w9=>∃u,v=aO #[ah af lk,u]/\w9.ownsRow E 3 1 u ml.length (br.map (ax af)),pV (aO (b.br p1 ml.length c1)),pV (ah .u16 x),fun v _ w9=>∃pl,eG b pl/\w9.ownsRow E 3 1 v pl.length (pl.map (ax af)),fun v _ w9=>∃B z,v=pv B 0/\w9.heap[B]?=some (ar z 42 (0,0))/\z.size=2/\E<=B,fun _ ds w9=>∃B u,ds[0]?=some (pv B 0)/\E<=B/\w9.heap[B]?=some (ar #[ah af lk,u] 42 (0,0))/\w9.ownsRow E 3 1 u ml.length (br.map (ax af)),fun v _ w9=>∃pl,eG b pl/\w9.ownsRow E 3 1 v pl.length (pl.map (ax af))] _ kQ hF.size hF.base ?_ ?_ ?_
 .refine⟨sV,sV,?_,sV,sV,?_,?_,?_,?_,trivial⟩
  .rintro v ds w1 w2 hS ⟨u,h1,h2⟩ hb;exact⟨u,h1,a8 h2 hb⟩
  .rintro v ds w1 w2 hS ⟨pl,h1,h2⟩ hb;exact⟨pl,h1,a8 h2 hb⟩
  .rintro v ds w1 w2 hS ⟨B,z,h1,h2,h3⟩ hb;exact⟨B,z,h1,aA h2 hb,h3⟩
  .rintro v ds w1 w2 hS ⟨B,u,h1,h2,h3,h4⟩ hb;exact⟨B,u,h1,h2,aA h3 hb,a8 h4 hb⟩
  rintro v ds w1 w2 hS ⟨pl,h1,h2⟩ hb;exact⟨pl,h1,a8 h2 hb⟩
 .refine⟨?_,?_,?_,?_,?_,?_,?_,?_,?_,trivial⟩<;>rintro ev w1 hS hc hg hf ⟨-,-,-,b5,-,-,b2,b1,-,-⟩ hd
  .have lj:=bt K5 (bU.trans (hC.trans hS));exact BU 28 rfl b5 lj cF rfl kQ rfl
  .exact tV
  .have d0:ev (aD 35)=_:=hd.1 rfl;have d1:ev (aD 36)=_:=hd.2.1 rfl;refine jV (f:=30) (args:=#[aO (b.br p1 ml.length c1),ae pq nq cq]) ?_ (HRl w1 (hC.trans hS)) ?_
   .go_simp
   rintro e w2 ⟨u,rfl,h1,hb⟩;exact⟨_,rfl,⟨u,rfl,jn h1 (by rw[hE];exact hS.size)⟩,bV hb⟩
  .have lj:=bt K5 (bU.trans (hC.trans hS));exact BU 28 rfl b5 lj cF rfl kQ rfl
  .exact tV
  .have d3:ev (aD 38)=_:=hd.1 rfl;have d4:ev (aD 39)=_:=hd.2.1 rfl;refine jV (f:=31) (args:=#[aO (b.br p1 ml.length c1),ah .u16 x]) ?_ (X9 w1) ?_
   .go_simp
   rintro e w2 ⟨u,pl,rfl,h1,h2,hb⟩;exact⟨_,rfl,⟨pl,h1,jn h2 (by rw[hE];exact hS.size)⟩,bV hb⟩
  .refine yN (v:=pv w1.heap.size 0) (w':=w1.alloc (ar #[ah af 0,ae none 0 0] 42)) ?_ ⟨⟨_,_,rfl,aw _ _,rfl,by rw[hE];exact hS.size⟩,bV dF⟩;go_simp
  .obtain⟨B,z,e9,k9,z9,g9⟩:=hd.1 rfl;obtain⟨u,e32,o32⟩:=hd.2.1 rfl;replace e9:ev (aD 11)=_:=e9;replace e32:ev (aD 37)=_:=e32;refine yvc 42 _ _ rfl B #[ah af lk,u] e9 e32 42 z k9 kQ z9 ?_ ⟨⟨B,u,congrArg some e9,g9,cD k9,dP o32 k9 dC⟩,.inr ⟨?_,?_⟩⟩
   .obtain⟨pu,cu,rfl⟩:=bP o32;simp[bJ]
   .exact ru hS oM
   .intro j u0 ds hj hp
    match j,hp with
    |0,hp|1,hp=>exact hp
    |2,⟨u1,h1,h2⟩=>exact⟨u1,h1,dP h2 k9 dC⟩
    |3,hp|4,hp=>exact hp
    |5,⟨pl,h1,h2⟩=>exact⟨pl,h1,dP h2 k9 dC⟩
    |6,⟨B',z',h1,h2,h3,h4⟩=>
     by_cases qG:B'=B
     .subst qG;rw[k9] at h2;cases h2;exact⟨B',_,h1,cD k9,rfl,h4⟩
     exact⟨B',z',h1,(setRow_other qG).trans h2,h3,h4⟩
    |7,_=>exact(hj rfl).elim
    |8,⟨pl,h1,h2⟩=>exact⟨pl,h1,dP h2 k9 dC⟩
    |j+9,_=>trivial
  obtain⟨pl,h1,h2⟩:=hd.1 rfl;exact yN (v:=ev (aD 40)) (w':=w1) rfl ⟨⟨pl,h1,h2⟩,bV (ay _ _)⟩
 intro a W hR;have ho:=hR.s;obtain⟨Yc,u9,q9,-,K11,o9⟩:=hR.val 7;have e9:a.eval (aD 11)=pv Yc 0:=aT q9;obtain⟨pl,hpl,o10⟩:=hR.val 8;obtain⟨v10,Eh⟩:∃v,a.eval (aD 12)=v:=⟨_,rfl⟩
 replace o10:W.ownsRow E 3 1 (a.eval (aD 12)) _ _:=o10;rw[Eh] at o10;obtain⟨pB,cB,rfl⟩:=bP o9;obtain⟨pP,cP,rfl⟩:=bP o10;replace hF:=((hR.fr hF kQ).cons (t:=11) e9).cons (t:=12) Eh;clear hR q9 e9 Eh;replace hC:=hC.trans ho;replace h0:=h0.trans hC;replace bU:=bU.trans hC;rename ak=>WD;have hD:=Old.refl WD;have h0D:=h0;have amd:pl.length<=3:=by have:=hpl.len;have:=dp.ey;omega
 have hrB:=Reads.gG o9 (by have:=AE.len;omega) (by rw[eJ,hbl,Nat.mul_one]);have hrP:=Reads.gG o10 oM sM;clear o9 o10 hE;rw[<-hbl] at K11 hrB;have ae8:=UB br qG;have acr:br.length<=3:=hbl▸AE.len;have amr:=dp.cI;have afh:=dp.iC;have hmm:=dp.minutes;have HPy:∀w9,Old WD w9->_:=fun w9 h9=>uJ b p1 none none pB pP c1 0 0 cB cP ml [] [] w9 (hL.old (h0D.trans h9)) (hBk w9 (hC.trans h9)) lk VW br qG hbl (hrB.old h9) pl hpl (hrP.old h9);obtain⟨mt,XV⟩:∃mt,b.minutes.toNat=mt:=⟨_,rfl⟩
 have hmi:b.minutes=(mt:Int):=oM;obtain⟨pn,Hh⟩:∃pn,bE pl=pn:=⟨_,rfl⟩
 obtain⟨U,hU⟩:∃U,b.cI+(jL lk br).used=U:=⟨_,rfl⟩
 rw[XV,Hh,hU] at HPy;refine mg quiet (N:=9) rfl ?_;refine dG quiet 0 3 6 ⟨[],[],[(B5,(b.br p1 ml.length c1)),(Yc,#[ah af lk,ae pB br.length cB])],[(1,1)]⟩ [(42,aO (b.br p1 ml.length c1)),(43,aO #[ah af lk,ae pB br.length cB]),(44,ae pP pl.length cP)] hF hF ⟨fun w1 hS=>⟨_,_,bt K5 (bU.trans (hD.trans hS))⟩,fun w1 hS=>⟨_,_,bt K11 (hD.trans hS)⟩,trivial⟩ trivial ?_;intro a W ho hF;replace hD:=hD.trans ho;refine tK quiet ⟨[],[],[],[]⟩ (some 45) (f:=32) (args:=#[aO (b.br p1 ml.length c1),aO #[ah af lk,ae pB br.length cB],ae pP pl.length cP]) hF hF (fun w1 hS=>HPy w1 (hD.trans hS)) ?_;rintro w1 _ W hS ⟨v45,rfl,hoL,hb⟩;obtain⟨pL,cL,rfl⟩:=bP hoL;refine⟨_,rfl,fun a hF=>?_⟩;have ho:=hS.trans (Old.of_below hb);replace hD:=hD.trans ho;replace h0:=h0.trans hD;replace bU:=bU.trans hD;replace hC:=hC.trans hD;rename ak=>DZ;have nH:=Old.refl DZ;have h0L:=h0;have hDL:=hD;have Rh:=bU;refine dG quiet 4 5 0 ⟨[],[],[],[]⟩ [(13,ae pL mt cL),(14,ah af 0)] hF hF trivial trivial ?_;intro a W ho hF;replace nH:=nH.trans ho;refine mf quiet aX ?_;obtain⟨r,afa,hr⟩:∃r:Nat,(∀w1,(Go.binOp .rem 3 (ah af (mn:Int)) (ah af b.minutes)).run aq w1=.ok (ah af (r:Int)) w1)/\r<mt:=⟨mn % mt,fun w1=>by rw[hmi];exact Mf mn mt oM w1,Nat.mod_lt _ oM⟩
 obtain⟨N,hN⟩:∃N:Nat,N=1+r:=⟨_,rfl⟩
 have hNm:1<=N/\N<=mt:=oM;refine NL quiet aX ⟨[],[(1,ah af (mn:Int)),(4,ah af (r:Int)),(5,ah af (N:Int))],[(B5,(b.br p1 ml.length c1))],[]⟩ [(15,ah af (N:Int))] hF hF ⟨fun w1 hS=>⟨_,_,bt K5 (bU.trans (nH.trans hS))⟩,trivial⟩ ⟨fun w1 hS _=>ge (congrArg (ax af) (show IntKind.i64.wrap (mn:Int)=(mn:Int) from by rw[bp];omega)),fun w1 hS _=>gs (Go.binOp .rem 3 (ah af (mn:Int)) (ah af b.minutes)) (afa w1) kQ,fun w1 hS _=>ge (congrArg (ax af) (show IntKind.i64.wrap (1+(r:Int))=(N:Int) by rw[bp];omega)),trivial⟩ ?_;intro a W ho hF;replace nH:=nH.trans ho;refine gR quiet ?_;replace h0:=h0.trans nH;replace bU:=bU.trans nH;replace hC:=hC.trans nH;replace hD:=hD.trans nH;rename ak=>WP;have hP:=Old.refl WP;obtain⟨i0,hi,hz0,hz1,hz2⟩:=gQ info3;have h0P:=h0;have Wm:=bU;have hCP:=hC;have hDP:=hD;have af_:=nH;refine uW quiet (dA aX) fun W ho=>?_;replace hP:=hP.trans ho;refine yI (N:=8) rfl ?_;refine nR ⟨[],[],[],[]⟩ (some 54) (fun B=>ae (some ⟨B,0,none⟩) 0 0) (#[]) 3 hF hF ?_;intro B54 W a G54 ho K54 hF;have anq:=aG (h0.trans hP).size G54;have age:=aG (bU.trans hP).size G54;have anp:=aG (hC.trans hP).size G54;have ano:=aG (hD.trans hP).size G54;have akc:=aG (nH.trans hP).size G54;have ann:=aG hP.size G54;have hb:=ho;replace ho:=Old.of_below ho;replace hP:=hP.trans ho;clear ho hb;replace h0:=h0.trans hP;replace bU:=bU.trans hP;replace hC:=hC.trans hP;replace hD:=hD.trans hP;replace nH:=nH.trans hP;rename ak=>W54;have F6:=Old.refl W54;refine lZ 1 1 6 [(55,ae pP pl.length cP)] hF ?_;intro a W ho hF;have hb:=ho;replace ho:=Old.of_below ho;replace F6:=F6.trans ho;clear ho hb;refine Pa ⟨[],[],[],[]⟩ (some 56) (R:=fun v w=>w.ownsRow WP.heap.size 3 1 v pl.length (pl.map (ax af))/\Bw W w) hF hF kQ (Yields.append_empty (aD 54) (aD 55) 25 kQ WP.heap.size 3 i0 (ah af 0) 1 8 dt hi hz0 hz1 hz2 rfl dC B54 kQ (bt K54 F6) oM (ae pP pl.length cP) pl.length (pl.map (ax af)) kQ sM (hrP.old (hD.trans F6)).src (Ak pl) (by unfold gP;omega) oM fun v' w' h1 h2 _=>⟨h1,h2⟩) ?_;rintro v56 W ⟨hown,ho⟩ a hF;obtain⟨p56,c56,rfl⟩:=bP hown;have hb:=ho;replace ho:=Old.of_below ho;replace F6:=F6.trans ho;clear ho hb;refine lZ 3 1 4 [(57,ah af (N:Int))] hF ?_;intro a W ho hF;have hb:=ho;replace ho:=Old.of_below ho;replace F6:=F6.trans ho;replace hown:=a8 hown hb;clear ho hb;refine nR ⟨[],[],[],[]⟩ (some 58) (fun B=>ae (some ⟨B,0,none⟩) 1 1) (#[ah af (N:Int)]) 3 hF hF ?_;intro B58 W a G58 ho K58 hF;have anm:=aG (h0.trans F6).size G58;have agd:=aG (bU.trans F6).size G58;have anl:=aG (hC.trans F6).size G58;have ank:=aG (hD.trans F6).size G58;have akb:=aG (nH.trans F6).size G58;have anj:=aG (hP.trans F6).size G58;have aka:=aG F6.size G58;have hb:=ho;replace ho:=Old.of_below ho;replace F6:=F6.trans ho;replace hown:=a8 hown hb;clear ho hb;replace h0:=h0.trans F6;replace bU:=bU.trans F6;replace hC:=hC.trans F6;replace hD:=hD.trans F6;replace nH:=nH.trans F6;replace hP:=hP.trans F6;rename ak=>W58;have h58:=Old.refl W58;refine Pa ⟨[],[],[],[]⟩ (some 59) (R:=fun v w=>w.ownsRow WP.heap.size 3 1 v (pl.length+1) (pl.map (ax af)++[ah af (N:Int)])/\W58.grownBy w (Value.slice p56 pl.length c56).ownBlock) hF hF kQ (Yields.mC (aD 56) (aD 58) 25 kQ WP.heap.size 3 i0 (ah af 0) 1 8 dt hi hz0 hz1 hz2 rfl dC _ _ _ kQ hown ⟨B58,0,none⟩ 1 1 [ah af (N:Int)] kQ rfl (fun j u hj=>by match j,hj with|0,hj=>(simp at hj;subst hj;exact aF K58 0 _ rfl)) (fun u hu=>by simp at hu;subst hu;rfl) (by unfold gP;omega) oM ((hP.trans h58)).size fun v' w' h1 h2 _=>⟨h1,h2⟩) ?_;rintro v59 W ⟨hown2,hgr⟩ a hF;replace hP:=U8 (aJ _) hown (hP.trans h58) hgr;replace hown:=hown2;clear hown2 hgr;replace h0:=h0P;clear h0P;replace bU:=Wm;clear Wm;replace hC:=hCP;clear hCP;replace hD:=hDP;clear hDP;replace nH:=af_;clear af_;obtain⟨xs,Ji⟩:∃xs,xs=pl++[(N:Int)]:=⟨_,rfl⟩
 have hxl:xs.length=pl.length+1:=by rw[Ji];simp
 replace hown:W.ownsRow WP.heap.size 3 1 v59 xs.length (xs.map (ax af)):=by rw[hxl,Ji,d_];exact hown
 obtain⟨p59,c59,rfl⟩:=bP hown;obtain⟨ys,YY⟩:∃ys,ys=ni (N:Int) pl:=⟨_,rfl⟩
 have ZZ:=OD p59 c59 xs oM W (Reads.gG hown oM sM);rw[show qu xs=ys by rw[Ji,YY];exact OE (Fw dp hpl).Xn _] at ZZ;refine Xj ⟨[],[],[],[]⟩ (some 60) (f:=37) (args:=#[ae p59 xs.length c59]) hF hF (ZZ) ?_;rintro _ W ⟨v60,rfl,hrS,hb⟩;obtain⟨pS,cS,rfl,-⟩:=aR hrS;refine⟨_,rfl,fun a hF=>?_⟩;have ho:=hb;have hb:=ho;replace ho:=Old.of_below ho;replace hP:=hP.trans ho;replace hown:=a8 hown hb;clear ho hb;replace h0:=h0.trans hP;replace bU:=bU.trans hP;replace hC:=hC.trans hP;replace hD:=hD.trans hP;replace nH:=nH.trans hP;rename ak=>W60;have Jo:=Old.refl W60;clear hown ZZ;have h06:=h0;have hD6:=hD;refine lZ 7 1 0 [(16,ae pS ys.length cS)] hF ?_;intro a W ho hF;have hb:=ho;replace ho:=Old.of_below ho;replace Jo:=Jo.trans ho;clear ho hb;refine AQ ?_;have hC6:=hC;have PA:mt<=20:=oM;refine gR quiet ?_;clear afa hr hN;have hpB:=Yx dp (n:=(N:Int)) oM;have hlB:=YT dp (n:=(N:Int)) oM;have HPa:∀w9,Old WD w9->_:=fun w9 h9=>uJ (ue b N) p1 none none pB pP c1 0 0 cB cP ml [] [] w9 (hL.old (h0D.trans h9)) ⟨hpB,AE,eG.nil hpB,wS _,hv.old (h0D.trans h9),bV ⟨rfl,rfl,rfl⟩,bV ⟨rfl,rfl,rfl⟩⟩ lk VW br qG hbl (hrB.old h9) pl ⟨hpl.mem,hpl.Xn,hpl.len⟩ (hrP.old h9);have HPg:∀w9,Old WD w9->_:=fun w9 h9=>uJ (yx b N) p1 none none pB pP c1 0 0 cB cP ml [] [] w9 (hL.old (h0D.trans h9)) ⟨hlB,AE,eG.nil hlB,wS _,hv.old (h0D.trans h9),bV ⟨rfl,rfl,rfl⟩,bV ⟨rfl,rfl,rfl⟩⟩ lk VW br qG hbl (hrB.old h9) pl ⟨hpl.mem,hpl.Xn,hpl.len⟩ (hrP.old h9);have HPh:∀w9,Old WD w9->_:=fun w9 h9=>uJ b p1 none none pB pP c1 0 0 cB cP ml [] [] w9 (hL.old (h0D.trans h9)) ⟨dp,AE,eG.nil dp,wS _,hv.old (h0D.trans h9),bV ⟨rfl,rfl,rfl⟩,bV ⟨rfl,rfl,rfl⟩⟩ (max 0 (lk-(N:Int))) oM br qG hbl (hrB.old h9) pl ⟨hpl.mem,hpl.Xn,hpl.len⟩ (hrP.old h9);have hm2:(ue b (N:Int)).minutes.toNat=mt:=XV;have M3:(yx b (N:Int)).minutes.toNat=mt:=XV;have hlp:(ue b (N:Int)).cI=b.cI:=rfl;obtain⟨U2,hU2⟩:∃U2,(yx b (N:Int)).cI+(jL lk br).used=U2:=⟨_,rfl⟩
 obtain⟨U3,hU3⟩:∃U3,b.cI+(jL (max 0 (lk-(N:Int))) br).used=U3:=⟨_,rfl⟩
 rw[hm2,Hh,hlp,hU] at HPa;rw[M3,Hh,hU2] at HPg;rw[XV,Hh,hU3] at HPh;have hU4:U2<=U:=by have h1:(yx b (N:Int)).cI<=b.cI:=(by omega:max 0 (b.cI-(N:Int))<=b.cI);omega
 have hmA:∀m,nD b pn m<=nD (ue b (N:Int)) pn m:=fun m=>SB dp oM pn m;have hU5:U3<=U:=by rw[<-hU3,<-hU,vv _ _ acr,vv _ _ acr];omega
 refine NL quiet (dA aX) ⟨[],[],[],[]⟩ [(62,aH false)] hF hF trivial trivial ?_;intro a W ho hF;replace Jo:=Jo.trans ho;refine nN quiet (t:=false) (hF.g 0 rfl) ?_;replace hF:=hF.tl;refine JS quiet (dA aX) fun W ho=>?_;replace Jo:=Jo.trans ho;refine gR quiet ?_;refine NL quiet (dA aX) ⟨[],[],[(B5,(b.br p1 ml.length c1))],[]⟩ [(67,aH (decide ((ys.length:Int)<=b.ey)))] hF hF ⟨fun w1 hS=>⟨_,_,bt K5 (bU.trans (Jo.trans hS))⟩,trivial⟩ trivial ?_;intro a W ho hF;replace Jo:=Jo.trans ho;refine uW quiet (dA aX) fun W ho=>?_;replace Jo:=Jo.trans ho;replace h0:=h0.trans Jo;replace bU:=bU.trans Jo;replace hC:=hC.trans Jo;replace hD:=hD.trans Jo;replace nH:=nH.trans Jo;replace hP:=hP.trans Jo;rename ak=>WM;have hM:=Old.refl WM;refine wp_mono (Q:=fun e a W=>e=.normal/\iw 192 a [(16,ae pS ys.length cS),(15,ah af (N:Int)),(14,ah af 0),(13,ae pL mt cL),(12,ae pP pl.length cP),(11,pv Yc 0),(10,aH false),(5,pv B5 0),(4,ah .u8 (mq:Int)),(3,ah .u8 (mn:Int)),(2,ah .u16 x),(1,ae pq nq cq)]/\Old WM W) ?_ ?_
 .refine b_ (t:=(decide ((ys.length:Int)<=b.ey))) (hF.g 0 rfl) (fun afQ=>?_) (fun afQ=>?_)
  .replace hF:=hF.tl;have hle:=of_decide_eq_true afQ;have aix:eG b ys:=YY▸abC dp hpl (n:=(N:Int)) oM oM (YY▸hle);obtain⟨py,hpy⟩:∃py,bE ys=py:=⟨_,rfl⟩
   have hmX:∀m,nD b pn m<=nD b py m:=fun m=>by rw[<-Hh,<-hpy,YY];exact Vz dp pl _ m
   have HPx:∀w9,Old W60 w9->_:=fun w9 h9=>uJ b p1 none none pB pS c1 0 0 cB cS ml [] [] w9 (hL.old (h06.trans h9)) (hBk w9 (hC6.trans h9)) lk VW br qG hbl (hrB.old (hD6.trans h9)) ys aix (hrS.old h9);rw[XV,hpy,hU] at HPx;refine vI (N:=9) rfl ?_;refine jZ 0 3 6 ⟨[],[],[(B5,(b.br p1 ml.length c1)),(Yc,#[ah af lk,ae pB br.length cB])],[(1,1)]⟩ [(69,aO (b.br p1 ml.length c1)),(70,aO #[ah af lk,ae pB br.length cB]),(71,ae pS ys.length cS)] hF hF ⟨fun w1 hS=>⟨_,_,bt K5 (bU.trans (hM.trans (Old.of_below hS)))⟩,fun w1 hS=>⟨_,_,bt K11 (hD.trans (hM.trans (Old.of_below hS)))⟩,trivial⟩ trivial ?_;intro a W ho hF;have hb:=ho;replace ho:=Old.of_below ho;replace hM:=hM.trans ho;clear ho hb;refine Xj ⟨[],[],[],[]⟩ (some 72) (f:=32) (args:=#[aO (b.br p1 ml.length c1),aO #[ah af lk,ae pB br.length cB],ae pS ys.length cS]) hF hF (HPx W (Jo.trans hM)) ?_;rintro _ W ⟨v72,rfl,hoX,hb⟩;obtain⟨pX,cX,rfl⟩:=bP hoX;refine⟨_,rfl,fun a hF=>?_⟩;have ho:=hb;have hb:=ho;replace ho:=Old.of_below ho;replace hM:=hM.trans ho;clear ho hb;replace h0:=h0.trans hM;replace bU:=bU.trans hM;replace hC:=hC.trans hM;replace hD:=hD.trans hM;replace nH:=nH.trans hM;replace hP:=hP.trans hM;replace Jo:=Jo.trans hM;rename ak=>W72;have h72:=Old.refl W72;refine lZ 4 5 0 [(17,ae pX mt cX),(18,ah af 0)] hF ?_;intro a W ho hF;have hb:=ho;replace ho:=Old.of_below ho;replace h72:=h72.trans ho;clear ho hb;refine xd ?_;refine EN ⟨[(77,false)],[(5,aH true)],[],[]⟩ [(82,aH false)] hF hF trivial ⟨fun w1 hS _=>gc (args:=#[ae pX mt cX,ae pL mt cL]) (Ao (b:=b) (c:=b) rfl rfl (Int.le_refl _) hmX PA (tk hoX (BB.iK _ _ _ _) PA (h72.trans (Old.of_below hS))) (tk hoL (BB.iK _ _ _ _) PA (nH.trans (h72.trans (Old.of_below hS))))),trivial⟩ ?_;intro a W ho hF;have hb:=ho;replace ho:=Old.of_below ho;replace h72:=h72.trans ho;clear ho hb;refine wp_cond (t:=false) (hF.g 0 rfl) ?_;replace hF:=hF.tl;refine eN ?_;exact⟨rfl,⟨hF.size,hF.defers,(by obtain⟨-,-,-,-,-,-,b16,-,-,-,-,-,-,-,b15,b14,b13,-,-,-,-,b12,ZK,-,-,Ov,b5,b4,b3,b2,b1,-,-⟩:=hF.base;exact⟨b16,b15,b14,b13,b12,ZK,Ov,b5,b4,b3,b2,b1,trivial⟩)⟩,(hM.trans h72)⟩
  replace hF:=hF.tl;refine eN ?_;exact⟨rfl,⟨hF.size,hF.defers,(by obtain⟨b16,-,-,-,-,-,-,-,b15,b14,b13,-,-,-,-,b12,ZK,-,-,Ov,b5,b4,b3,b2,b1,-,-⟩:=hF.base;exact⟨b16,b15,b14,b13,b12,ZK,Ov,b5,b4,b3,b2,b1,trivial⟩)⟩,hM⟩
 rintro e a W ⟨rfl,hF,hM⟩;refine gR quiet ?_;refine uW quiet (dA aX) fun W ho=>?_;replace hM:=hM.trans ho;refine yI (N:=3) rfl ?_;refine jZ 0 1 2 ⟨[],[],[(B5,(b.br p1 ml.length c1))],[]⟩ [(83,aO (b.br p1 ml.length c1))] hF hF ⟨fun w1 hS=>⟨_,_,bt K5 (bU.trans (hM.trans (Old.of_below hS)))⟩,trivial⟩ trivial ?_;intro a W ho hF;have hb:=ho;replace ho:=Old.of_below ho;replace hM:=hM.trans ho;clear ho hb;refine nR ⟨[],[],[],[]⟩ (some 19) (fun B=>pv B 0) (zP) 28 hF hF ?_;intro Uq W a G19 ho Oc hF;have Ru:=aG (h0.trans hM).size G19;have AK:=aG (bU.trans hM).size G19;have Rs:=aG (hD.trans hM).size G19;have F9:=aG (nH.trans hM).size G19;have Rq:=aG hM.size G19;have hb:=ho;replace ho:=Old.of_below ho;replace hM:=hM.trans ho;clear ho hb;replace h0:=h0.trans hM;replace bU:=bU.trans hM;replace hD:=hD.trans hM;replace nH:=nH.trans hM;rename ak=>W19;have X7:=Old.refl W19;refine wP ⟨[],[],[],[]⟩ (zP) (b.br p1 ml.length c1) (aP 15) hF hF (bt Oc X7) ?_;intro W a up Oc hF;replace h0:=up.old (h0.trans X7) Ru;replace bU:=up.old (bU.trans X7) AK;replace hD:=up.old (hD.trans X7) Rs;replace nH:=up.old (nH.trans X7) F9;replace hM:=up.old (hM.trans X7) Rq;clear up;rename ak=>RF;have sG:=Old.refl RF;refine AQ ?_;refine gR quiet ?_;refine uW quiet (dA aX) fun W ho=>?_;replace sG:=sG.trans ho;refine yI (N:=7) rfl ?_;refine jZ 0 6 1 ⟨[],[(3,ah af (b.iC+(N:Int))),(4,ah af (min 99 (b.iC+(N:Int))))],[(B5,(b.br p1 ml.length c1))],[]⟩ [(88,ah af (min 99 (b.iC+(N:Int)))),(89,pv Uq 7)] hF hF ⟨fun w1 hS=>⟨_,_,bt K5 (bU.trans (sG.trans (Old.of_below hS)))⟩,trivial⟩ ⟨fun w1 hS _=>ge (congrArg (ax af) (show IntKind.i64.wrap (b.iC+(N:Int))=(b.iC+(N:Int)) by rw[bp];omega)),fun w1 hS _=>gs (Builtin.min_ #[3,3] 3 #[ah af 99,ah af (b.iC+(N:Int))]) (Vg _ _ w1),trivial⟩ ?_;intro a W ho hF;have hb:=ho;replace ho:=Old.of_below ho;replace sG:=sG.trans ho;clear ho hb;refine wP ⟨[],[],[],[]⟩ (b.br p1 ml.length c1) ((ue b N).br p1 ml.length c1) [0] hF hF (bt Oc sG) ?_;intro W a up Oc hF;replace h0:=up.old (h0.trans sG) Ru;replace bU:=up.old (bU.trans sG) AK;replace hD:=up.old (hD.trans sG) Rs;replace nH:=up.old (nH.trans sG) F9;replace hM:=up.old (hM.trans sG) Rq;clear up;rename ak=>agQ;have sF:=Old.refl agQ;refine AQ ?_;refine mg quiet (N:=9) rfl ?_;refine dG quiet 0 3 6 ⟨[],[],[(Uq,((ue b N).br p1 ml.length c1)),(Yc,#[ah af lk,ae pB br.length cB])],[(1,1)]⟩ [(91,aO ((ue b N).br p1 ml.length c1)),(92,aO #[ah af lk,ae pB br.length cB]),(93,ae pP pl.length cP)] hF hF ⟨fun w1 hS=>⟨_,_,bt Oc (sF.trans hS)⟩,fun w1 hS=>⟨_,_,bt K11 (hD.trans (sF.trans hS))⟩,trivial⟩ trivial ?_;intro a W ho hF;replace sF:=sF.trans ho;refine tK quiet ⟨[],[],[],[]⟩ (some 94) (f:=32) (args:=#[aO ((ue b N).br p1 ml.length c1),aO #[ah af lk,ae pB br.length cB],ae pP pl.length cP]) hF hF (fun w1 hS=>HPa w1 (hD.trans (sF.trans hS))) ?_;rintro w1 _ W hS ⟨v94,rfl,Ue,hb⟩;obtain⟨pA,cA,rfl⟩:=bP Ue;refine⟨_,rfl,fun a hF=>?_⟩;have ho:=hS.trans (Old.of_below hb);replace sF:=sF.trans ho;replace h0:=h0.trans sF;replace bU:=bU.trans sF;replace hD:=hD.trans sF;replace nH:=nH.trans sF;replace hM:=hM.trans sF;rename ak=>W94;have PS:=Old.refl W94;refine dG quiet 4 5 0 ⟨[],[],[],[]⟩ [(20,ae pA mt cA),(21,ah af 0)] hF hF trivial trivial ?_;intro a W ho hF;replace PS:=PS.trans ho;refine mf quiet aX ?_;refine gR quiet ?_;refine uW quiet (dA aX) fun W ho=>?_;replace PS:=PS.trans ho;refine yI (N:=2) rfl ?_;refine jZ 0 1 1 ⟨[],[],[(B5,(b.br p1 ml.length c1))],[]⟩ [(97,aO (b.br p1 ml.length c1))] hF hF ⟨fun w1 hS=>⟨_,_,bt K5 (bU.trans (PS.trans (Old.of_below hS)))⟩,trivial⟩ trivial ?_;intro a W ho hF;have hb:=ho;replace ho:=Old.of_below ho;replace PS:=PS.trans ho;clear ho hb;replace Ue:=Ms Ue PS;have Mx:=gF Ue (bt Oc (sF.trans PS)) dC;refine wP ⟨[],[],[],[]⟩ ((ue b N).br p1 ml.length c1) (b.br p1 ml.length c1) (aP 15) hF hF (bt Oc (sF.trans PS)) ?_;intro W a up Oc hF;replace h0:=up.old (h0.trans PS) Ru;replace bU:=up.old (bU.trans PS) AK;replace hD:=up.old (hD.trans PS) Rs;replace nH:=up.old (nH.trans PS) F9;replace hM:=up.old (hM.trans PS) Rq;replace Ue:=dY Ue fun g hg=>up.block g fun e=>Mx (by rw[hg,e]);clear Mx;clear up;rename ak=>agP;have uw:=Old.refl agP;refine AQ ?_;refine gR quiet ?_;refine uW quiet (dA aX) fun W ho=>?_;replace uw:=uw.trans ho;refine yI (N:=7) rfl ?_;refine jZ 0 6 1 ⟨[],[(3,ah af (b.cI-(N:Int))),(4,ah af (max 0 (b.cI-(N:Int))))],[(B5,(b.br p1 ml.length c1))],[]⟩ [(102,ah af (max 0 (b.cI-(N:Int)))),(103,pv Uq 4)] hF hF ⟨fun w1 hS=>⟨_,_,bt K5 (bU.trans (uw.trans (Old.of_below hS)))⟩,trivial⟩ ⟨fun w1 hS _=>ge (congrArg (ax af) (show IntKind.i64.wrap (b.cI-(N:Int))=(b.cI-(N:Int)) by rw[bp];omega)),fun w1 hS _=>gs (Builtin.max_ #[3,3] 3 #[ah af 0,ah af (b.cI-(N:Int))]) (MB _ _ w1),trivial⟩ ?_;intro a W ho hF;have hb:=ho;replace ho:=Old.of_below ho;replace uw:=uw.trans ho;clear ho hb;replace Ue:=Ms Ue uw;have Mx:=gF Ue (bt Oc uw) dC;refine wP ⟨[],[],[],[]⟩ (b.br p1 ml.length c1) ((yx b N).br p1 ml.length c1) [0] hF hF (bt Oc uw) ?_;intro W a up Oc hF;replace h0:=up.old (h0.trans uw) Ru;replace bU:=up.old (bU.trans uw) AK;replace hD:=up.old (hD.trans uw) Rs;replace nH:=up.old (nH.trans uw) F9;replace hM:=up.old (hM.trans uw) Rq;replace Ue:=dY Ue fun g hg=>up.block g fun e=>Mx (by rw[hg,e]);clear Mx;clear up;rename ak=>agO;have l_:=Old.refl agO;refine AQ ?_;refine mg quiet (N:=9) rfl ?_;refine dG quiet 0 3 6 ⟨[],[],[(Uq,((yx b N).br p1 ml.length c1)),(Yc,#[ah af lk,ae pB br.length cB])],[(1,1)]⟩ [(105,aO ((yx b N).br p1 ml.length c1)),(106,aO #[ah af lk,ae pB br.length cB]),(107,ae pP pl.length cP)] hF hF ⟨fun w1 hS=>⟨_,_,bt Oc (l_.trans hS)⟩,fun w1 hS=>⟨_,_,bt K11 (hD.trans (l_.trans hS))⟩,trivial⟩ trivial ?_;intro a W ho hF;replace l_:=l_.trans ho;refine tK quiet ⟨[],[],[],[]⟩ (some 108) (f:=32) (args:=#[aO ((yx b N).br p1 ml.length c1),aO #[ah af lk,ae pB br.length cB],ae pP pl.length cP]) hF hF (fun w1 hS=>HPg w1 (hD.trans (l_.trans hS))) ?_;rintro w1 _ W hS ⟨aoF,rfl,hoG,hb⟩;obtain⟨pG,cG,rfl⟩:=bP hoG;refine⟨_,rfl,fun a hF=>?_⟩;have ho:=hS.trans (Old.of_below hb);replace l_:=l_.trans ho;replace h0:=h0.trans l_;replace bU:=bU.trans l_;replace hD:=hD.trans l_;replace nH:=nH.trans l_;replace hM:=hM.trans l_;rename ak=>akX;have nX:=Old.refl akX;refine dG quiet 4 5 0 ⟨[],[],[],[]⟩ [(22,ae pG mt cG),(23,ah af 0)] hF hF trivial trivial ?_;intro a W ho hF;replace nX:=nX.trans ho;refine mf quiet aX ?_;refine gR quiet ?_;refine uW quiet (dA aX) fun W ho=>?_;replace nX:=nX.trans ho;refine yI (N:=3) rfl ?_;refine jZ 0 1 2 ⟨[],[],[(Yc,#[ah af lk,ae pB br.length cB])],[]⟩ [(111,aO #[ah af lk,ae pB br.length cB])] hF hF ⟨fun w1 hS=>⟨_,_,bt K11 (hD.trans (nX.trans (Old.of_below hS)))⟩,trivial⟩ trivial ?_;intro a W ho hF;have hb:=ho;replace ho:=Old.of_below ho;replace nX:=nX.trans ho;clear ho hb;refine nR ⟨[],[],[],[]⟩ (some 24) (fun B=>pv B 0) (#[ah af 0,ae none 0 0]) 42 hF hF ?_;intro Yb W a G24 ho X8 hF;have aaM:=aG (h0.trans nX).size G24;have Nq:=aG (bU.trans nX).size G24;have aaL:=aG (hD.trans nX).size G24;have P0:=aG (nH.trans nX).size G24;have aaK:=aG (hM.trans nX).size G24;have Np:=aG (l_.trans nX).size G24;have Rp:=aG nX.size G24;have hb:=ho;replace ho:=Old.of_below ho;replace nX:=nX.trans ho;clear ho hb;replace h0:=h0.trans nX;replace bU:=bU.trans nX;replace hD:=hD.trans nX;replace nH:=nH.trans nX;replace hM:=hM.trans nX;replace l_:=l_.trans nX;rename ak=>W24;have Wl:=Old.refl W24;refine wP ⟨[],[],[],[]⟩ (#[ah af 0,ae none 0 0]) (#[ah af lk,ae pB br.length cB]) (aP 2) hF hF (bt X8 Wl) ?_;intro W a up X8 hF;replace h0:=up.old (h0.trans Wl) aaM;replace bU:=up.old (bU.trans Wl) Nq;replace hD:=up.old (hD.trans Wl) aaL;replace nH:=up.old (nH.trans Wl) P0;replace hM:=up.old (hM.trans Wl) aaK;replace l_:=up.old (l_.trans Wl) Np;replace nX:=up.old (nX.trans Wl) Rp;clear up;rename ak=>agN;have uu:=Old.refl agN;refine AQ ?_;refine gR quiet ?_;refine uW quiet (dA aX) fun W ho=>?_;replace uu:=uu.trans ho;refine yI (N:=7) rfl ?_;refine jZ 0 6 1 ⟨[],[(3,ah af (lk-(N:Int))),(4,ah af (max 0 (lk-(N:Int))))],[(Yc,#[ah af lk,ae pB br.length cB])],[]⟩ [(116,ah af (max 0 (lk-(N:Int)))),(117,pv Yb 0)] hF hF ⟨fun w1 hS=>⟨_,_,bt K11 (hD.trans (uu.trans (Old.of_below hS)))⟩,trivial⟩ ⟨fun w1 hS _=>ge (congrArg (ax af) (show IntKind.i64.wrap (lk-(N:Int))=(lk-(N:Int)) by rw[bp];omega)),fun w1 hS _=>gs (Builtin.max_ #[3,3] 3 #[ah af 0,ah af (lk-(N:Int))]) (MB _ _ w1),trivial⟩ ?_;intro a W ho hF;have hb:=ho;replace ho:=Old.of_below ho;replace uu:=uu.trans ho;clear ho hb;refine wP ⟨[],[],[],[]⟩ (#[ah af lk,ae pB br.length cB]) (#[ah af (max 0 (lk-(N:Int))),ae pB br.length cB]) [0] hF hF (bt X8 uu) ?_;intro W a up X8 hF;replace h0:=up.old (h0.trans uu) aaM;replace bU:=up.old (bU.trans uu) Nq;replace hD:=up.old (hD.trans uu) aaL;replace nH:=up.old (nH.trans uu) P0;replace hM:=up.old (hM.trans uu) aaK;replace l_:=up.old (l_.trans uu) Np;replace nX:=up.old (nX.trans uu) Rp;clear up;rename ak=>agM;have rE:=Old.refl agM;refine AQ ?_;refine mg quiet (N:=9) rfl ?_;refine dG quiet 0 3 6 ⟨[],[],[(B5,(b.br p1 ml.length c1)),(Yb,#[ah af (max 0 (lk-(N:Int))),ae pB br.length cB])],[(1,1)]⟩ [(119,aO (b.br p1 ml.length c1)),(120,aO #[ah af (max 0 (lk-(N:Int))),ae pB br.length cB]),(121,ae pP pl.length cP)] hF hF ⟨fun w1 hS=>⟨_,_,bt K5 (bU.trans (rE.trans hS))⟩,fun w1 hS=>⟨_,_,bt X8 (rE.trans hS)⟩,trivial⟩ trivial ?_;intro a W ho hF;replace rE:=rE.trans ho;refine tK quiet ⟨[],[],[],[]⟩ (some 122) (f:=32) (args:=#[aO (b.br p1 ml.length c1),aO #[ah af (max 0 (lk-(N:Int))),ae pB br.length cB],ae pP pl.length cP]) hF hF (fun w1 hS=>HPh w1 (hD.trans (rE.trans hS))) ?_;rintro w1 _ W hS ⟨aoE,rfl,hoH,hb⟩;obtain⟨pH,cH,rfl⟩:=bP hoH;refine⟨_,rfl,fun a hF=>?_⟩;have ho:=hS.trans (Old.of_below hb);replace rE:=rE.trans ho;replace h0:=h0.trans rE;replace bU:=bU.trans rE;replace hD:=hD.trans rE;replace nH:=nH.trans rE;replace hM:=hM.trans rE;replace l_:=l_.trans rE;replace nX:=nX.trans rE;rename ak=>akV;have pN:=Old.refl akV;refine dG quiet 4 5 0 ⟨[],[],[],[]⟩ [(25,ae pH mt cH),(26,ah af 0)] hF hF trivial trivial ?_;intro a W ho hF;replace pN:=pN.trans ho;refine mf quiet aX ?_;refine gR quiet ?_;refine NL quiet (dA aX) ⟨[(127,false),(131,false),(135,false),(141,false),(147,false)],[(13,aH true),(19,aH true),(25,aH true)],[],[]⟩ [(152,aH false)] hF hF trivial ⟨fun w1 hS _=>gc (args:=#[ae pA mt cA,ae pL mt cL]) (Ao (b:=b) (c:=ue b (N:Int)) rfl rfl (Int.le_refl _) hmA PA (tk Ue (BB.iK _ _ _ _) PA (l_.trans (pN.trans hS))) (tk hoL (BB.iK _ _ _ _) PA (nH.trans (pN.trans hS)))),fun w1 hS _=>gc (args:=#[ae pG mt cG,ae pL mt cL]) (Ao (b:=b) (c:=yx b (N:Int)) rfl rfl hU4 (fun m=>Int.le_refl _) PA (tk hoG (BB.iK _ _ _ _) PA (nX.trans (pN.trans hS))) (tk hoL (BB.iK _ _ _ _) PA (nH.trans (pN.trans hS)))),fun w1 hS _=>gc (args:=#[ae pH mt cH,ae pL mt cL]) (Ao (b:=b) (c:=b) rfl rfl hU5 (fun m=>Int.le_refl _) PA (tk hoH (BB.iK _ _ _ _) PA (pN.trans hS)) (tk hoL (BB.iK _ _ _ _) PA (nH.trans (pN.trans hS)))),trivial⟩ ?_;intro a W ho hF;replace pN:=pN.trans ho;refine nN quiet (t:=false) (hF.g 0 rfl) ?_;replace hF:=hF.tl;refine JS quiet (dA aX) fun W ho=>?_;replace pN:=pN.trans ho;refine gR quiet ?_;refine NL quiet (dA aX) ⟨[],[],[(B5,(b.br p1 ml.length c1))],[]⟩ [(156,aH ((ml.length:Int)==0))] hF hF ⟨fun w1 hS=>⟨_,_,bt K5 (bU.trans (pN.trans hS))⟩,trivial⟩ trivial ?_;intro a W ho hF;replace pN:=pN.trans ho;refine IK quiet (t:=((ml.length:Int)==0)) (hF.g 0 rfl) (fun V6=>?_) (fun V6=>?_)
 .replace hF:=hF.tl;replace hF:=hF.del 10;simp only[lQ,ic,bR,reduceIte] at hF;refine ckX quiet (dA aX) 0 ⟨[],[(0,aH true)],[],[]⟩ rfl [(10,aH true)] hF hF trivial ⟨fun w1 hS _=>gv (vq (hL.old (h0.trans (pN.trans hS)))) kQ,trivial⟩ ?_;intro a W ho hF;replace pN:=pN.trans ho;exact lU quiet (dA aX) fun I d=>fQ ⟨hF.defers,_,cg rfl _ _ _,(hF.g 0 rfl),nQ I d (h0.trans pN)⟩
 replace hF:=hF.tl;have hmp:0<ml.length:=Nat.pos_of_ne_zero fun e=>by rw[e] at V6;exact absurd V6 dC
 refine JS quiet (dA aX) fun W ho=>?_;replace pN:=pN.trans ho;refine gR quiet ?_;refine uW quiet (dA aX) fun W ho=>?_;replace pN:=pN.trans ho;have aga:=(nH.trans pN)
 have ZW:=bt Oc (l_.trans pN);have adi:=bt X8 (rE.trans pN);have hne:Yb≠Uq:=by rintro rfl;rw[adi] at ZW;injection ZW with e;injection e with _ e _;exact absurd e dC
 obtain⟨i,hir⟩:∃i,mq % ml.length=i:=⟨_,rfl⟩
 have hil:i<ml.length:=by rw[<-hir];exact Nat.mod_lt _ hmp
 obtain⟨ix,hix⟩:∃ix,yG ml.length i=ix:=⟨_,rfl⟩
 have afC:ix.length<=3:=by have h1:=WY ml.length i;have:=AE.len;rw[hix] at h1;omega
 have ab2:∀j∈ix,j<ml.length:=fun j hj=>Zz (hix▸hj);have HDp:∀w9 p c,_->_:=fun w9 p c h9=>ZA ml.length i AE.len p c w9 h9;rw[hix] at HDp;have EE:MoS DZ Uq Yb false false W:=⟨aga,fun _=>⟨_,ZW,rfl⟩,fun _=>⟨_,adi,rfl⟩⟩
 refine EJ kQ [
 fun v ds w9=>v=aO (b.br p1 ml.length c1),
  fun v ds w9=>v=aO #[ah af lk,ae pB br.length cB],
  fun v ds w9=>v=pv B5 12,
  fun v ds w9=>v=ae p1 ml.length c1,
  fun v ds w9=>v=ah af (ml.length:Int),
  fun v ds w9=>∃p c,v=ae p ml.length c/\w9.ownsRow DZ.heap.size 3 1 (ae p ml.length c) ml.length ((si ml.length).map (ax af)),
  fun v ds w9=>v=ah .u8 (mq:Int),
  fun v ds w9=>v=ah af (mq:Int),
  fun v ds w9=>v=pv B5 12,
  fun v ds w9=>v=ae p1 ml.length c1,
  fun v ds w9=>v=ah af (ml.length:Int),
  fun v ds w9=>v=ah af (i:Int),
  fun v ds w9=>∃p c,v=ae p ix.length c/\w9.ownsRow DZ.heap.size 3 1 (ae p ix.length c) ix.length (ix.map fun j=>ax af (j:Nat)),
  fun v ds w9=>∃x u,v=cR #[aO (b.cells x (ae none 0 0) (ae none 0 0)),aO #[ah af lk,u]]/\w9.ownsRow DZ.heap.size 79 3 x ix.length (dX (ig ml ix))/\w9.ownsRow DZ.heap.size 3 1 u ix.length ((jW br ix).map (ax af)),
  fun v ds w9=>∃x u,v=cR #[aO (b.cells x (ae none 0 0) (ae none 0 0)),aO #[ah af lk,u]]/\w9.ownsRow DZ.heap.size 79 3 x ix.length (dX (ig ml ix))/\w9.ownsRow DZ.heap.size 3 1 u ix.length ((jW br ix).map (ax af)),
  fun v ds w9=>∃x,v=aO (b.cells x (ae none 0 0) (ae none 0 0))/\w9.ownsRow DZ.heap.size 79 3 x ix.length (dX (ig ml ix)),
  fun v ds w9=>∃u,v=aO #[ah af lk,u]/\w9.ownsRow DZ.heap.size 3 1 u ix.length ((jW br ix).map (ax af)),
  fun v ds w9=>∃x,w9.heap[Uq]?=some (ar (b.cells x (ae none 0 0) (ae none 0 0)) 28 (0,0))/\w9.ownsRow DZ.heap.size 79 3 x ix.length (dX (ig ml ix)),
  fun v ds w9=>∃u,w9.heap[Yb]?=some (ar #[ah af lk,u] 42 (0,0))/\w9.ownsRow DZ.heap.size 3 1 u ix.length ((jW br ix).map (ax af))]
  (fun L9 w9=>MoS DZ Uq Yb (L9 17) (L9 18) w9) [(4,ah .u8 (mq:Int)),(5,pv B5 0),(11,pv Yc 0),(19,pv Uq 0),(24,pv Yb 0)] kQ hF.size ?rst (fun L1 L2 w1 w2 hl h hb=>h.next (hl 17) (hl 18) hb) (EE.drew) (by obtain⟨-,-,-,-,-,-,-,-,b24,-,-,-,-,-,-,-,-,-,-,-,-,-,-,-,-,-,-,b19,-,-,-,-,-,-,ZK,-,b5,b4,-,-,-,-⟩:=hF.base;exact⟨b4,b5,ZK,b19,b24,trivial⟩) ?reach ?rfin
 case rst=>
  refine⟨Ph.kS,Ph.kS,Ph.kS,Ph.kS,Ph.kS,?_,Ph.kS,Ph.kS,Ph.kS,Ph.kS,Ph.kS,Ph.kS,?_,?_,?_,?_,?_,?_,?_,trivial⟩
  .rintro v ds L9 w1 w2 hS ⟨p,c,h1,h2⟩ hb;exact⟨p,c,h1,a8 h2 hb⟩
  .rintro v ds L9 w1 w2 hS ⟨p,c,h1,h2⟩ hb;exact⟨p,c,h1,a8 h2 hb⟩
  .rintro v ds L9 w1 w2 hS ⟨x,u,h1,h2,h3⟩ hb;exact⟨x,u,h1,a8 h2 hb,a8 h3 hb⟩
  .rintro v ds L9 w1 w2 hS ⟨x,u,h1,h2,h3⟩ hb;exact⟨x,u,h1,a8 h2 hb,a8 h3 hb⟩
  .rintro v ds L9 w1 w2 hS ⟨x,h1,h2⟩ hb;exact⟨x,h1,a8 h2 hb⟩
  .rintro v ds L9 w1 w2 hS ⟨x,h1,h2⟩ hb;exact⟨x,h1,a8 h2 hb⟩
  .rintro v ds L9 w1 w2 hS ⟨x,h1,h2⟩ hb;exact⟨x,aA h1 hb,a8 h2 hb⟩
  rintro v ds L9 w1 w2 hS ⟨x,h1,h2⟩ hb;exact⟨x,aA h1 hb,a8 h2 hb⟩
 case reach=>
  refine⟨?_,?_,?_,?_,?_,?_,?_,?_,?_,?_,?_,?_,?_,?_,?_,?_,?_,?_,?_,trivial⟩<;>(intro Lf ev w1 hn nG hS hc hg hf hb hd;obtain⟨b4,b5,ZK,b19,b24,-⟩:=hb)
  .have lj:=bt K5 (Rh.trans hS.old);exact yvb 28 _ rfl B5 b5 28 _ (0,0) _ lj cF rfl kQ ⟨rfl,bV (ay _ _)⟩
  .have lj:=bt K11 (hDL.trans hS.old);exact yvb 42 _ rfl Yc ZK 42 _ (0,0) _ lj Tryz.underlying42 rfl kQ ⟨rfl,bV (ay _ _)⟩
  .exact Ph.t9
  .have d2:(ev (aD 161))=pv B5 12:=hd.1 rfl;have lj:=bt K5 (Rh.trans hS.old);have z:=aF lj 12 (ae p1 ml.length c1) rfl;exact Ph.t9
  .have d3:(ev (aD 162))=ae p1 ml.length c1:=hd.1 rfl;exact Ph.t9
  .have d4:(ev (aD 163))=ah af (ml.length:Int):=hd.1 rfl;have hsz:DZ.heap.size<=w1.heap.size:=hS.old.size;refine jV (f:=41) (args:=#[ah af (ml.length:Int)]) ?_ (Ux ml.length oM w1) ?_
   .go_simp
   rintro e w2 ⟨v,rfl,h1,hb2⟩;obtain⟨p,c,rfl⟩:=bP h1;exact⟨_,rfl,⟨p,c,rfl,jn h1 hsz⟩,bV hb2⟩
  .exact Ph.t9
  .have d6:(ev (aD 165))=ah .u8 (mq:Int):=hd.1 rfl;have hw:IntKind.i64.wrap (mq:Int)=(mq:Int):=by rw[bp];omega
   exact Ph.t9
  .exact Ph.t9
  .have d8:(ev (aD 167))=pv B5 12:=hd.1 rfl;have lj:=bt K5 (Rh.trans hS.old);have z:=aF lj 12 (ae p1 ml.length c1) rfl;exact Ph.t9
  .have d9:(ev (aD 168))=ae p1 ml.length c1:=hd.1 rfl;exact Ph.t9
  .have d7:(ev (aD 166))=ah af (mq:Int):=hd.1 rfl;have d10:(ev (aD 169))=ah af (ml.length:Int):=hd.2.1 rfl;refine yN (v:=ah af (i:Int)) (w':=w1) ?_ ⟨rfl,bV (ay _ _)⟩;exact Gf rfl d7 d10 hmp hir
  .have d5:∃p c,(ev (aD 164))=ae p ml.length c/\w1.ownsRow DZ.heap.size 3 1 (ae p ml.length c) ml.length ((si ml.length).map (ax af)):=hd.1 rfl;have d11:(ev (aD 170))=ah af (i:Int):=hd.2.1 rfl;have hsz:DZ.heap.size<=w1.heap.size:=hS.old.size;obtain⟨p,c,e5,h5⟩:=d5;have h5:=Reads.gG h5 oM (by simp[IW]);refine jV (f:=40) (args:=#[ae p ml.length c,ah af (i:Int)]) ?_ (HDp w1 p c h5) ?_
   .go_simp
   rintro e w2 ⟨v,rfl,h1,hb2⟩;obtain⟨p,c,rfl⟩:=bP h1;exact⟨_,rfl,⟨p,c,rfl,jn h1 hsz⟩,bV hb2⟩
  .have d0:(ev (aD 159))=aO (b.br p1 ml.length c1):=hd.1 rfl;have d1:(ev (aD 160))=aO #[ah af lk,ae pB br.length cB]:=hd.2.1 rfl;have d12:∃p c,(ev (aD 171))=ae p ix.length c/\w1.ownsRow DZ.heap.size 3 1 (ae p ix.length c) ix.length (ix.map fun j=>ax af (j:Nat)):=hd.2.2.1 rfl;have hsz:DZ.heap.size<=w1.heap.size:=hS.old.size;obtain⟨p,c,Uj,PV⟩:=d12;refine jV (f:=39) (args:=#[aO (b.br p1 ml.length c1),aO #[ah af lk,ae pB br.length cB],ae p ix.length c]) ?_ (LK b p1 none none pB p c1 0 0 0 0 cB c lk ml br ix AE.len hbl afC ab2 w1 (hv.old (h0L.trans hS.old)) (hrB.old (hDL.trans hS.old)) (aem PV afC)) ?_
   .go_simp
   rintro e w2 ⟨x,u,rfl,h1,h2,hb2⟩;exact⟨_,rfl,⟨x,u,rfl,jn h1 hsz,jn h2 hsz⟩,bV hb2⟩
  .have d13:∃x u,(ev (aD 172))=cR #[aO (b.cells x (ae none 0 0) (ae none 0 0)),aO #[ah af lk,u]]/\w1.ownsRow DZ.heap.size 79 3 x ix.length (dX (ig ml ix))/\w1.ownsRow DZ.heap.size 3 1 u ix.length ((jW br ix).map (ax af)):=hd.1 rfl;exact yN (v:=ev (aD 172)) (w':=w1) rfl ⟨d13,bV (ay _ _)⟩
  .have d14:∃x u,(ev (aD 158))=cR #[aO (b.cells x (ae none 0 0) (ae none 0 0)),aO #[ah af lk,u]]/\w1.ownsRow DZ.heap.size 79 3 x ix.length (dX (ig ml ix))/\w1.ownsRow DZ.heap.size 3 1 u ix.length ((jW br ix).map (ax af)):=hd.1 rfl;obtain⟨x,u,EI,h1,h2⟩:=d14;refine yN (v:=aO (b.cells x (ae none 0 0) (ae none 0 0))) (w':=w1) ?_ ⟨⟨x,rfl,h1⟩,bV (ay _ _)⟩;go_simp
  .have d14:∃x u,(ev (aD 158))=cR #[aO (b.cells x (ae none 0 0) (ae none 0 0)),aO #[ah af lk,u]]/\w1.ownsRow DZ.heap.size 79 3 x ix.length (dX (ig ml ix))/\w1.ownsRow DZ.heap.size 3 1 u ix.length ((jW br ix).map (ax af)):=hd.1 rfl;obtain⟨x,u,EI,h1,h2⟩:=d14;refine yN (v:=aO #[ah af lk,u]) (w':=w1) ?_ ⟨⟨u,rfl,h2⟩,bV (ay _ _)⟩;go_simp
  .have d15:∃x,(ev (aD 173))=aO (b.cells x (ae none 0 0) (ae none 0 0))/\w1.ownsRow DZ.heap.size 79 3 x ix.length (dX (ig ml ix)):=hd.1 rfl;have d1:(ev (aD 160))=aO #[ah af lk,ae pB br.length cB]:=hd.2.2.2.1 rfl;obtain⟨x,e15,h1⟩:=d15;obtain⟨z,Vv,hz⟩:=hS.k nG;obtain⟨p,c,rfl⟩:=bP h1;refine yvc 28 _ _ rfl Uq (b.br p ix.length c) b19 e15 28 z Vv kQ hz (by simp[bJ]) ⟨⟨_,cD Vv,dP h1 Vv dC⟩,.inr ⟨⟨ru hS.old F9,fun e=>by simp[Ph.upd] at e,fun e=>?_⟩,?_⟩⟩
   .obtain⟨z2,h2,h3⟩:=hS.l (by simpa [Ph.upd] using e);exact⟨z2,(setRow_other hne).trans h2,h3⟩
   .intro t u ds hj hL hp
    match t,hp with
    |0,hp|1,hp|2,hp|3,hp|4,hp=>exact hp
    |5,⟨p2,c2,h1,h2⟩=>exact⟨p2,c2,h1,dP h2 Vv dC⟩
    |6,hp|7,hp|8,hp|9,hp|10,hp|11,hp=>exact hp
    |12,⟨p2,c2,h1,h2⟩=>exact⟨p2,c2,h1,dP h2 Vv dC⟩
    |13,⟨x2,u2,h1,h2,h3⟩=>exact⟨x2,u2,h1,dP h2 Vv dC,dP h3 Vv dC⟩
    |14,⟨x2,u2,h1,h2,h3⟩=>exact⟨x2,u2,h1,dP h2 Vv dC,dP h3 Vv dC⟩
    |15,⟨x2,h1,h2⟩=>exact⟨x2,h1,dP h2 Vv dC⟩
    |16,⟨x2,h1,h2⟩=>exact⟨x2,h1,dP h2 Vv dC⟩
    |17,_=>exact(hj rfl).elim
    |18,_=>rw[hn 18 kQ] at hL;cases hL
    |t+19,_=>trivial
  have d16:∃u,(ev (aD 174))=aO #[ah af lk,u]/\w1.ownsRow DZ.heap.size 3 1 u ix.length ((jW br ix).map (ax af)):=hd.1 rfl;have d1:(ev (aD 160))=aO #[ah af lk,ae pB br.length cB]:=hd.2.2.2.1 rfl;obtain⟨u,ND,h1⟩:=d16;obtain⟨z,Ua,hz⟩:=hS.l nG;obtain⟨p,c,rfl⟩:=bP h1;refine yvc 42 _ _ rfl Yb #[ah af lk,ae p ix.length c] b24 ND 42 z Ua kQ hz (by simp[bJ]) ⟨⟨_,cD Ua,dP h1 Ua dC⟩,.inr ⟨⟨ru hS.old P0,fun e=>?_,fun e=>by simp[Ph.upd] at e⟩,?_⟩⟩
  .obtain⟨z2,h2,h3⟩:=hS.k (by simpa [Ph.upd] using e);exact⟨z2,(setRow_other hne.symm).trans h2,h3⟩
  .intro t u ds hj hL hp
   match t,hp with
   |0,hp|1,hp|2,hp|3,hp|4,hp=>exact hp
   |5,⟨p2,c2,h1,h2⟩=>exact⟨p2,c2,h1,dP h2 Ua dC⟩
   |6,hp|7,hp|8,hp|9,hp|10,hp|11,hp=>exact hp
   |12,⟨p2,c2,h1,h2⟩=>exact⟨p2,c2,h1,dP h2 Ua dC⟩
   |13,⟨x2,u2,h1,h2,h3⟩=>exact⟨x2,u2,h1,dP h2 Ua dC,dP h3 Ua dC⟩
   |14,⟨x2,u2,h1,h2,h3⟩=>exact⟨x2,u2,h1,dP h2 Ua dC,dP h3 Ua dC⟩
   |15,⟨x2,h1,h2⟩=>exact⟨x2,h1,dP h2 Ua dC⟩
   |16,⟨x2,h1,h2⟩=>exact⟨x2,h1,dP h2 Ua dC⟩
   |17,⟨x2,h1,h2⟩=>exact⟨x2,(setRow_other hne.symm).trans h1,dP h2 Ua dC⟩
   |18,_=>exact(hj rfl).elim
   |t+19,_=>trivial
 case rfin=>
  intro a W hR;have nH:=hR.s.old;obtain⟨xE,Oc,oE⟩:=hR.val 17;obtain⟨uE,X8,oU⟩:=hR.val 18;replace Oc:W.heap[Uq]?=_:=Oc;replace X8:W.heap[Yb]?=_:=X8;replace hF:=hR.fr hF kQ;clear hR EE ZW adi aga HDp;obtain⟨pE,cE,rfl⟩:=bP oE;obtain⟨pU,cU,rfl⟩:=bP oU;have h0:=h0L.trans nH;have hD:=hDL.trans nH;have bU:=Rh.trans nH;rename ak=>W27;have Wj:=Old.refl W27;have hlM:(ig ml ix).length=ix.length:=(MJ ml ix ab2).2.1;have hlI:(jW br ix).length=ix.length:=by simp[jW]
  have hrE:=Reads.gG oE oM (by rw[t_,hlM,Nat.mul_comm]);have hrU:=Reads.gG oU oM (by rw[eJ,hlI,Nat.mul_one]);clear oE oU;have ajf:∀j∈ix,j<br.length:=fun j hj=>by have:=ab2 j hj;omega
  have hbI:∀y∈jW br ix,0<=y/\y<=99:=fun y hy=>qG y (S6 ajf y hy);have hmL:xp (ig ml ix):=hix▸Pd AE i;rw[<-hlM] at hrE;rw[<-hlI] at hrU;have HPk:∀w9,Old W27 w9->_:=fun w9 h9=>uJ b pE none none pU pP cE 0 0 cU cP (ig ml ix) [] [] w9 (hL.old (h0.trans h9)) ⟨dp,hmL,eG.nil dp,wS b,hrE.old h9,bV ⟨rfl,rfl,rfl⟩,bV ⟨rfl,rfl,rfl⟩⟩ lk VW (jW br ix) hbI (by rw[hlM,hlI]) (hrU.old h9) pl hpl (hrP.old (hD.trans h9));obtain⟨U6,hU6⟩:∃U6,b.cI+(jL lk (jW br ix)).used=U6:=⟨_,rfl⟩
  rw[XV,Hh,hU6,hlM,hlI] at HPk;replace hU6:U6<=U:=by rw[<-hU6,<-hU,vv _ _ acr,vv _ _ oM];have h1:=S5 (br:=br) (fun y hy=>(qG y hy).1) (i:=i) oM;rw[hbl,hix] at h1;omega
  refine mg quiet (N:=9) rfl ?_;refine dG quiet 0 3 6 ⟨[],[],[(Uq,(b.br pE ix.length cE)),(Yb,#[ah af lk,ae pU ix.length cU])],[(1,1)]⟩ [(176,aO (b.br pE ix.length cE)),(177,aO #[ah af lk,ae pU ix.length cU]),(178,ae pP pl.length cP)] hF hF ⟨fun w1 hS=>⟨_,_,bt Oc (Wj.trans hS)⟩,fun w1 hS=>⟨_,_,bt X8 (Wj.trans hS)⟩,trivial⟩ trivial ?_;intro a W ho hF;replace Wj:=Wj.trans ho;refine tK quiet ⟨[],[],[],[]⟩ (some 179) (f:=32) (args:=#[aO (b.br pE ix.length cE),aO #[ah af lk,ae pU ix.length cU],ae pP pl.length cP]) hF hF (fun w1 hS=>HPk w1 (Wj.trans hS)) ?_;rintro w1 _ W hS ⟨aoD,rfl,hoK,hb⟩;obtain⟨pK,cK,rfl⟩:=bP hoK;refine⟨_,rfl,fun a hF=>?_⟩;have ho:=hS.trans (Old.of_below hb);replace Wj:=Wj.trans ho;replace h0:=h0.trans Wj;replace hD:=hD.trans Wj;replace bU:=bU.trans Wj;replace nH:=nH.trans Wj;rename ak=>akU;have Ni:=Old.refl akU;refine dG quiet 4 5 0 ⟨[],[],[],[]⟩ [(27,ae pK mt cK),(28,ah af 0)] hF hF trivial trivial ?_;intro a W ho hF;replace Ni:=Ni.trans ho;refine mf quiet aX ?_;replace hF:=hF.del 10;simp only[lQ,ic,bR,reduceIte] at hF;refine ckX quiet aX 8 ⟨[(184,true),(189,true)],[(5,aH true),(8,aH true)],[],[]⟩ rfl [(10,aH true)] hF hF trivial ⟨fun w1 hS _=>gn4 (gc (args:=#[ae pK mt cK,ae pL mt cL]) (Ao (b:=b) (c:=b) rfl rfl hU6 (fun m=>Int.le_refl _) PA (tk hoK (BB.iK _ _ _ _) PA (Ni.trans hS)) (tk hoL (BB.iK _ _ _ _) PA (nH.trans (Ni.trans hS))))),fun w1 hS _=>gv (vq (hL.old (h0.trans (Ni.trans hS)))) kQ,trivial⟩ ?_;intro a W ho hF;replace Ni:=Ni.trans ho;exact lU quiet aX fun I d=>fQ ⟨hF.defers,_,cg rfl _ _ _,(hF.g 0 rfl),nQ I d (h0.trans Ni)⟩
def SV(b:BB)(p1 p2 p3 pq:Option dc)(n1 c1 n2 c2 n3 c3 nq cq:Nat)(hbig:20<n1\/20<n2\/20<n3)(x:Int)(mn mq:Nat){W0:ak}(hL:Laid W0):ko aq 5 #[aO (b.sl p1 n1 c1 p2 n2 c2 p3 n3 c3),ae pq nq cq,ah .u16 x,ah .u8 (mn:Int),ah .u8 (mq:Int)] W0 fun v W'=>v=aH true/\Old W0 W':=by
 refine lz quiet Tryz.func5 rfl ?hR ?body
 case hR=>
  rintro v W' I d ⟨h1,h2⟩;exact⟨h1,xI h2⟩
 have hF:=Ga (args:=#[aO (b.sl p1 n1 c1 p2 n2 c2 p3 n3 c3),ae pq nq cq,ah .u16 x,ah .u8 (mn:Int),ah .u8 (mq:Int)]) (n:=192) sM [(4,ah .u8 (mq:Int)),(3,ah .u8 (mn:Int)),(2,ah .u16 x),(1,ae pq nq cq),(0,aO (b.sl p1 n1 c1 p2 n2 c2 p3 n3 c3))] ⟨jB rfl,jB rfl,jB rfl,jB rfl,jB rfl,trivial⟩;rw[show Tryz.f5.ntmps=192 from rfl];generalize (⟨#[aO (b.sl p1 n1 c1 p2 n2 c2 p3 n3 c3),ae pq nq cq,ah .u16 x,ah .u8 (mn:Int),ah .u8 (mq:Int)]++bz (192-(#[aO (b.sl p1 n1 c1 p2 n2 c2 p3 n3 c3),ae pq nq cq,ah .u16 x,ah .u8 (mn:Int),ah .u8 (mq:Int)]:Array ai).size) au,[]⟩:Act)=a at *;refine(fun h:∀W,Old W0 W->wD aq _ (I9 aq Tryz.f5 fun v W'=>v=aH true/\Old W0 W') a W=>h W0 (Old.refl W0)) ?_;intro W h0;refine mg quiet (N:=2) rfl ?_;refine px quiet ⟨[],[],[],[]⟩ (some 5) (fun B=>pv B 0) (b.sl p1 n1 c1 p2 n2 c2 p3 n3 c3) 28 hF hF ?_;intro B5 W a G5 ho K5 hF;have acS:=aG h0.size G5;replace h0:=h0.trans ho;rename ak=>W5;have h5:=Old.refl W5;refine dG quiet 1 1 0 ⟨[],[],[],[]⟩ [(10,aH false)] hF hF trivial trivial ?_;intro a W ho hF;replace h5:=h5.trans ho;refine mf quiet aX ?_;refine gR quiet ?_;refine NL quiet (dA aX) ⟨[],[(1,aH false)],[(B5,(b.sl p1 n1 c1 p2 n2 c2 p3 n3 c3))],[]⟩ [(31,aH true)] hF hF ⟨fun w1 hS=>⟨_,_,bt K5 (h5.trans hS)⟩,trivial⟩ ⟨fun w1 hS _=>gc (Wx b p1 p2 p3 n1 c1 n2 c2 n3 c3 hbig w1),trivial⟩ ?_;intro a W ho hF;replace h5:=h5.trans ho;refine nN quiet (t:=true) (hF.g 0 rfl) ?_;replace hF:=hF.tl.tl;refine ckX quiet (dA aX) 0 ⟨[],[(0,aH true)],[],[]⟩ rfl [(10,aH true)] hF hF trivial ⟨fun w1 hS _=>gv (vq (hL.old (h0.trans (h5.trans hS)))) kQ,trivial⟩ ?_;intro a W ho hF;replace h5:=h5.trans ho;exact lU quiet (dA aX) fun I d=>fQ ⟨hF.defers,_,cg rfl _ _ _,(hF.g 0 rfl),nQ I d (h0.trans h5)⟩
end Go.Proofs.YtffladgmkiimjaaGreatDoor
