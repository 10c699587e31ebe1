/- breathed (19), beside leavers. Small lemmas of BellPlayed, BellMore. L .. -/
import Derived.Test.YtffladgmkiimjaaGreatDoorU11
set_option linter.all false
set_option maxHeartbeats 0
set_option maxRecDepth 1000000
open Go.Lag.Yields renaming call -> jO,value -> Gw
open Array renaming getElem?_eq_some_iff -> ah,replicate -> bF
open Bool renaming and_eq_true -> aJ
open Go renaming TypeId -> a7,Value -> aj,World -> ak,Operand -> bI,wp_cond_split -> bW,execOp -> bY,results_tmp -> bZ,bodyPost_ret -> bj,Calls -> bm,wp_seq -> dR,wp_skip -> ej,wp_block -> jv
open Go.Builtin renaming min_ -> Ci,max_ -> Cj
open Go.Ending renaming returned -> bA
open Go.Instr renaming indexAt -> fp
open Go.IntKind renaming i64 -> af,wrap_i64 -> bg
open Go.Lib renaming hid -> ai
open Go.Obj renaming cells -> au
open Go.Op renaming equalIn -> uf
open Go.Operand renaming tmp -> aL
open Go.Proofs.Tryz renaming prog -> aq,underlying28 -> cM
open Go.Result renaming andThen_ok -> h_
open Go.RowKit.Below renaming refl -> aB
open Go.Sem renaming run_bind -> mI
open Go.Value renaming int -> aD,bool -> aI,agg -> aR,slice -> ae,int -> ag,oneCell' -> cD,tuple -> cH,slice -> eE,pointer -> eX
open Go.World renaming alloc_heap_new -> az,ownsRow_nil -> dG
open List renaming map_toArray -> HV,take_length -> Hz,range -> aS,all_eq_true -> aX,mem_append -> bB,take_succ_eq_append_getElem -> bO,getElem_mem -> bQ,getElem?_eq_getElem -> eQ,mem_flatMap -> lg
open Nat renaming le_trans -> aF,le_refl -> aO,lt_of_lt_of_le -> bw,reduceEqDiff -> bz,zero_le -> gD,le_of_eq -> vE
open Option.some renaming inj -> bp
open Or renaming inl -> cJ
open Std.Legacy.Range renaming forIn_eq_forIn_range' -> rF
namespace Go.Proofs.YtffladgmkiimjaaGreatDoor
open Go.RowKit Go.Lag
open Go.Conc
def Typed.old{w w':ak}{v:aj}{t:a7}(h:Typed w v t)(ho:Old w w'):Typed w' v t:=fun g hg=>by
 obtain⟨c,hc⟩:=h g hg;exact⟨c,(ho.block g (ah.1 hc).1).trans hc⟩
def Typed.uQ{w:ak}{v:aj}{t u:a7}(h:Typed w v t){B:Nat}{z cs:Array aj}(hB:w.heap[B]?=some (au z u (0,0)))(ht:t≠u):Typed (w.setRow B cs) v t:=h.setRow fun g hg=>by
 obtain⟨c,hc⟩:=h g hg;rintro rfl;rw[hc] at hB;cases hB;exact ht rfl
def Typed.at_{w w':ak}{v:aj}{t:a7}{n:Nat}{xs:List aj}(hr:Reads w v n xs)(hs:w.heap.size<=w'.heap.size)(hk:∀g,v.ownBlock=some g->w'.heap[g]?=w.heap[g]?):Reads w' v n xs:=hr.at_ hs hk
def fX.old{b:BB}{m s k:aj}{ml:List Mn}{ss:List Int}{ms:List Mk}{w w':ak}(h:fX b m s k ml ss ms w)(ho:Old w w'):fX b m s k ml ss ms w':=⟨h.tocQ.old ho,h.t1.old ho,h.t2.old ho,h.t3.old ho⟩
def TQ{w:ak}{v:aj}{t u:a7}(h:Typed w v t){B:Nat}{z:Array aj}(hB:w.heap[B]?=some (au z u (0,0)))(ht:t≠u):∀g,v.ownBlock=some g->g≠B:=fun g hg=>by
 obtain⟨c,hc⟩:=h g hg;rintro rfl;rw[hc] at hB;cases hB;exact ht rfl
def fX.uQ{b:BB}{m s k:aj}{ml:List Mn}{ss:List Int}{ms:List Mk}{w:ak}(h:fX b m s k ml ss ms w){B:Nat}{z cs:Array aj}(hB:w.heap[B]?=some (au z 28 (0,0))):fX b m s k ml ss ms (w.setRow B cs):=
 ⟨⟨h.ok,h.gS,h.mE,h.kI,h.rm.at_ (by rw[setRow_size];exact aO _) fun g hg=>setRow_other (TQ h.t1 hB dC g hg),h.rs.at_ (by rw[setRow_size];exact aO _) fun g hg=>setRow_other (TQ h.t2 hB dC g hg),h.rk.at_ (by rw[setRow_size];exact aO _) fun g hg=>setRow_other (TQ h.t3 hB dC g hg)⟩,
  h.t1.uQ hB dC,h.t2.uQ hB dC,h.t3.uQ hB dC⟩
def ExB.old{m:aj}{w w':ak}(h:ExB m w)(ho:Old w w'):ExB m w':=⟨h.own.old ho,h.pl.old ho⟩
def EO{W w:ak}(h:Old W w){B:Nat}{cs:Array aj}(hB:W.heap.size<=B):Old W (w.setRow B cs):=⟨h.os,h.output,by rw[setRow_size];exact h.size,fun k hk=>(setRow_other oM).trans (h.block k hk)⟩
def wZ(w:ak):Plain w (ae none 0 0):=fun g hg=>by cases hg
structure BrW(W0:ak)(B:Nat)(m:aj)(W:ak):Prop where
 since:Old W0 W
 laid:Laid W
 bk:W.heap[B]?=some (au (ex.cells m (ae none 0 0) (ae none 0 0)) 28 (0,0))
 ex:ExB m W
def bE{W W':ak}{B:Nat}{o:Obj}(h:W.heap[B]?=some o)(ho:Old W W'):W'.heap[B]?=some o:=(ho.block _ (ah.1 h).1).trans h
def BrW.old{W0 W W':ak}{B:Nat}{m:aj}(h:BrW W0 B m W)(ho:Old W W'):BrW W0 B m W':=⟨h.since.trans ho,h.laid.old ho,bE h.bk ho,h.ex.old ho⟩
structure BrC(b:BB)(ms:List Mk)(B:Nat)(m s k:aj)(W:ak):Prop where
 bk:W.heap[B]?=some (au (b.cells m s k) 28 (0,0))
 own:fX b m s k j7 [] ms W
def BrC.old{b:BB}{ms:List Mk}{W W':ak}{B:Nat}{m s k:aj}(h:BrC b ms B m s k W)(ho:Old W W'):BrC b ms B m s k W':=⟨bE h.bk ho,h.own.old ho⟩
abbrev pR(l:List Int):Pred:=fun v _ w=>Reads w v l.length (l.map (aD af))
def kR{S:ak->Prop}{l:List Int}:∀(u:aj) (ds:List aj) (w w':ak),S w->pR l u ds w->Bw w w'->pR l u ds w':=fun _ _ _ _ _ h hb=>h.below hb
abbrev pL(l:List Int):Pred:=fun v _ w=>∃q,v=ae (some ⟨q,0,none⟩) l.length l.length/\w.heap[q]?=some (au (l.map (aD af)).toArray 3 (0,0))
def kL{S:ak->Prop}{l:List Int}:∀(u:aj) (ds:List aj) (w w':ak),S w->pL l u ds w->Bw w w'->pL l u ds w':=fun _ _ _ _ _ ⟨q,h1,h2⟩ hb=>⟨q,h1,bE h2 (Old.of_below hb)⟩
abbrev pK(l:List Int):Pred:=fun v _ w=>∃q,v=aR #[ag af 0,ae (some ⟨q,0,none⟩) l.length l.length]/\w.heap[q]?=some (au (l.map (aD af)).toArray 3 (0,0))
abbrev pT(r:List aj)(l:List Int):Pred:=fun v _ w=>∃x,v=cH (x::r).toArray/\Reads w x l.length (l.map (aD af))
def kT{S:ak->Prop}{r:List aj}{l:List Int}:∀(u:aj) (ds:List aj) (w w':ak),S w->pT r l u ds w->Bw w w'->pT r l u ds w':=fun _ _ _ _ _ ⟨x,h1,h2⟩ hb=>⟨x,h1,h2.below hb⟩
abbrev pB(b:BB)(ms:List Mk):Pred:=fun v _ w=>∃m s k,v=aR (b.cells m s k)/\fX b m s k j7 [] ms w
def kB{S:ak->Prop}{b:BB}{ms:List Mk}:∀(u:aj) (ds:List aj) (w w':ak),S w->pB b ms u ds w->Bw w w'->pB b ms u ds w':=fun _ _ _ _ _ ⟨m,s,k,h1,h2⟩ hb=>⟨m,s,k,h1,h2.old (Old.of_below hb)⟩
abbrev pU(b:BB)(ms:List Mk):Pred:=fun v _ w=>∃m s k,v=cH #[aR (b.cells m s k),ag af 0]/\fX b m s k j7 [] ms w
def kU{S:ak->Prop}{b:BB}{ms:List Mk}:∀(u:aj) (ds:List aj) (w w':ak),S w->pU b ms u ds w->Bw w w'->pU b ms u ds w':=fun _ _ _ _ _ ⟨m,s,k,h1,h2⟩ hb=>⟨m,s,k,h1,h2.old (Old.of_below hb)⟩
abbrev pM(m s:aj):Pred:=fun v _ w=>∃k',v=aR (ex.cells m s k')/\cQ ex m s k' j7 [] [sw,mk2] w
def kM{S:ak->Prop}{m s:aj}:∀(u:aj) (ds:List aj) (w w':ak),S w->pM m s u ds w->Bw w w'->pM m s u ds w':=fun _ _ _ _ _ ⟨k,h1,h2⟩ hb=>⟨k,h1,h2.below hb⟩
abbrev pA(W:ak)(t:a7)(n:Nat):Pred:=fun v _ w=>∃B,∃z:Array aj,v=pv B 0/\w.heap[B]?=some (au z t (0,0))/\z.size=n/\W.heap.size<=B
def kA{S:ak->Prop}{W:ak}{t:a7}{n:Nat}:∀(u:aj) (ds:List aj) (w w':ak),S w->pA W t n u ds w->Bw w w'->pA W t n u ds w':=fun _ _ _ _ _ ⟨B,z,h1,h2,h3,h4⟩ hb=>⟨B,z,h1,bE h2 (Old.of_below hb),h3,h4⟩
abbrev pSB(W:ak)(b:BB)(ms:List Mk):Pred:=fun _ d w=>∃B m s k,d[0]?=some (pv B 0)/\W.heap.size<=B/\w.heap[B]?=some (au (b.cells m s k) 28 (0,0))/\fX b m s k j7 [] ms w
def kSB{S:ak->Prop}{W:ak}{b:BB}{ms:List Mk}:∀(u:aj) (ds:List aj) (w w':ak),S w->pSB W b ms u ds w->Bw w w'->pSB W b ms u ds w':=fun _ _ _ _ _ ⟨B,m,s,k,h1,h4,h2,h3⟩ hb=>⟨B,m,s,k,h1,h4,bE h2 (Old.of_below hb),h3.old (Old.of_below hb)⟩
def od(xs:List Int)(v1 v2:aj)(w:ak)(h1:Reads w v1 xs.length (xs.map (aD af)))(h2:Reads w v2 xs.length (xs.map (aD af))) :
  bm aq 22 #[v1,v2] w (Rt w (aI true)):=by
 have h:=Ju xs xs v1 v2 w h1 h2;rw[decide_eq_true (rfl:xs=xs)] at h;exact h
def rh{W0:ak}(hL:Laid W0):j5 aq 19 #[] W0 fun v W'=>v=aI true/\Old W0 W':=by
 refine lr quiet Tryz.func19 rfl ?hR ?body
 case hR=>
  rintro v W' I d ⟨h1,h2⟩;exact⟨h1,w_ h2⟩
 have hF:gw 329 { tmps:=#[]++bF (Tryz.f19.ntmps-(#[]:Array aj).size) undef,defers:=[] } []:=⟨by simp only[Tryz.ntmps19];simp,rfl,trivial⟩
 generalize ({ tmps:=#[]++bF (Tryz.f19.ntmps-(#[]:Array aj).size) undef,defers:=[] }:Act)=a at *;refine(fun h:∀W,Old W0 W->vI aq _ (Ir aq Tryz.f19 fun v W'=>v=aI true/\Old W0 W') a W=>h W0 (Old.refl W0)) ?_;intro W h0;refine FT quiet aW ⟨[],[],[],[]⟩ [(0,aI false)] hF hF trivial trivial ?_;intro a W ho hF;replace h0:=h0.trans ho;refine lG quiet (N:=3) rfl ?_;refine pS quiet ⟨[],[],[],[]⟩ (some 37) (f:=93) (args:=#[]) hF hF (fun w1 hS=>SS (aF hL.lt (h0.trans hS).size)) ?_;rintro w1 _ W hS ⟨m,rfl,xB,hb⟩;obtain⟨pm,cm,rfl,-⟩:=aT xB.own.rm;refine⟨_,rfl,fun a hF=>?_⟩;have ho:=hS.trans (Old.of_below hb);replace h0:=h0.trans ho;rename ak=>W37;have Hc:=Old.refl W37;refine nG quiet ⟨[],[],[],[]⟩ (some 1) (fun B=>pv B 0) (AZ) 28 hF hF ?_;intro B1 W a G1 ho K1 hF;have aj8:=aF (h0.trans Hc).size G1;have afY:=aF Hc.size G1;replace Hc:=Hc.trans ho;replace h0:=h0.trans Hc;rename ak=>W1;have h1:=Old.refl W1;refine Qc quiet ⟨[],[],[],[]⟩ (AZ) (ex.br pm j7.length cm) (aS 15) hF hF (bE K1 h1) ?_;intro W a up K1 hF;replace h0:=up _ (h0.trans h1) aj8;replace Hc:=up _ (Hc.trans h1) afY;clear up;rename ak=>vg;have dp:=Old.refl vg;refine lF quiet aW ?_;unfold BB.br at K1;generalize (eE pm j7.length cm)=m at *;replace h0:=h0.trans dp;replace Hc:=Hc.trans dp;rename ak=>WE;have hE:=Old.refl WE;have F:BrW W0 B1 m WE:=⟨h0,hL.old h0,(bE K1 dp),xB.old Hc⟩
 refine FT quiet aW ⟨[],[(1,cH #[ag af 60,ag af 0])],[(B1,(ex.cells m (ae none 0 0) (ae none 0 0)))],[]⟩ [(2,ag af 60),(3,ag af 0)] hF hF ⟨fun w1 hS=>⟨_,_,(F.old (hE.trans hS)).bk⟩,trivial⟩ ⟨fun w1 hS _=>have F:=F.old (hE.trans hS);gc (args:=#[aR (ex.cells m (ae none 0 0) (ae none 0 0))]) (YU F.laid F.ex.own.tocQ),trivial⟩ ?_;intro a W ho hF;replace hE:=hE.trans ho;refine FT quiet aW ⟨[],[(1,cH #[ag af 18,ag af 0])],[(B1,(ex.cells m (ae none 0 0) (ae none 0 0)))],[]⟩ [(4,ag af 18),(5,ag af 0)] hF hF ⟨fun w1 hS=>⟨_,_,(F.old (hE.trans hS)).bk⟩,trivial⟩ ⟨fun w1 hS _=>have F:=F.old (hE.trans hS);gc (args:=#[aR (ex.cells m (ae none 0 0) (ae none 0 0)),ag af 37]) (af7 F.laid F.ex.own.tocQ),trivial⟩ ?_;intro a W ho hF;replace hE:=hE.trans ho;refine lG quiet (N:=10) rfl ?_;refine dt quiet 0 1 9 ⟨[],[],[(B1,(ex.cells m (ae none 0 0) (ae none 0 0)))],[]⟩ [(49,aR (ex.cells m (ae none 0 0) (ae none 0 0)))] hF hF ⟨fun w1 hS=>⟨_,_,(F.old (hE.trans hS)).bk⟩,trivial⟩ trivial ?_;intro a W ho hF;replace hE:=hE.trans ho;refine nG quiet ⟨[],[],[],[]⟩ (some 50) (fun B=>ae (some ⟨B,0,none⟩) 2 2) #[ag af 3,ag af 4] 3 hF hF ?_;intro B50 W a _ ho Zm hF;replace hE:=hE.trans ho;refine dt quiet 2 1 7 ⟨[],[],[],[]⟩ [(51,aR #[ag af 0,ae (some ⟨B50,0,none⟩) 2 2])] hF hF trivial trivial ?_;intro a W ho hF;replace hE:=hE.trans ho;replace Zm:=bE Zm ho;refine nG quiet ⟨[],[],[],[]⟩ (some 52) (fun B=>ae (some ⟨B,0,none⟩) 1 1) #[ag af 1] 3 hF hF ?_;intro B52 W a _ ho K52 hF;replace hE:=hE.trans ho;replace Zm:=bE Zm ho;refine pS quiet ⟨[],[],[],[]⟩ (some 53) (f:=32) (args:=#[aR (ex.cells m (ae none 0 0) (ae none 0 0)),aR #[ag af 0,ae (some ⟨B50,0,none⟩) 2 2],ae (some ⟨B52,0,none⟩) 1 1]) hF hF (fun w1 hS=>by have F:=F.old (hE.trans hS);exact acy F.laid F.ex.own.tocQ _ _ (bE Zm hS) (bE K52 hS)) ?_;rintro w1 _ W hS ⟨v6,rfl,r6,hb⟩;refine⟨_,rfl,fun a hF=>?_⟩;have ho:=hS.trans (Old.of_below hb);replace hE:=hE.trans ho;replace Zm:=bE Zm ho;replace K52:=bE K52 ho;replace h0:=h0.trans hE;replace Hc:=Hc.trans hE;replace dp:=dp.trans hE;rename ak=>W53;have xe:=Old.refl W53;refine dt quiet 5 5 0 ⟨[],[],[],[]⟩ [(6,v6),(7,ag af 0)] hF hF trivial trivial ?_;intro a W ho hF;replace Zm:=bE Zm ho;replace K52:=bE K52 ho;replace xe:=xe.trans ho;refine lF quiet aW ?_;refine FT quiet aW ⟨[],[(1,cH #[ag af 4,ag af 0])],[(B1,(ex.cells m (ae none 0 0) (ae none 0 0)))],[]⟩ [(8,ag af 4),(9,ag af 0)] hF hF ⟨fun w1 hS=>⟨_,_,(F.old (hE.trans (xe.trans hS))).bk⟩,trivial⟩ ⟨fun w1 hS _=>have F:=F.old (hE.trans (xe.trans hS));gc (args:=#[aR (ex.cells m (ae none 0 0) (ae none 0 0))]) (VN F.laid F.ex.own.tocQ),trivial⟩ ?_;intro a W ho hF;replace xe:=xe.trans ho;refine lG quiet (N:=9) rfl ?_;refine dt quiet 0 1 8 ⟨[],[],[(B1,(ex.cells m (ae none 0 0) (ae none 0 0)))],[]⟩ [(62,aR (ex.cells m (ae none 0 0) (ae none 0 0)))] hF hF ⟨fun w1 hS=>⟨_,_,(F.old (hE.trans (xe.trans hS))).bk⟩,trivial⟩ trivial ?_;intro a W ho hF;replace xe:=xe.trans ho;refine nG quiet ⟨[],[],[],[]⟩ (some 63) (fun B=>ae (some ⟨B,0,none⟩) 2 2) #[ag af 1,ag af 3] 3 hF hF ?_;intro B63 W a _ ho K63 hF;replace xe:=xe.trans ho;refine dt quiet 2 4 3 ⟨[],[(2,cH #[aR #[ag af 21,ag af 31],ag af 0])],[],[]⟩ [(65,aR #[ag af 21,ag af 31]),(66,ag af 0)] hF hF trivial ⟨fun w1 hS _=>have F:=F.old (hE.trans (xe.trans hS));gc (args:=#[aR (ex.cells m (ae none 0 0) (ae none 0 0)),ae (some ⟨B63,0,none⟩) 2 2,ag af 5]) (af_ F.laid F.ex.own.tocQ _ (bE K63 hS)),trivial⟩ ?_;intro a W ho hF;replace xe:=xe.trans ho;replace K63:=bE K63 ho;refine nG quiet ⟨[],[],[],[]⟩ (some 10) (fun B=>pv B 0) (#[ag af 0,ag af 0]) 23 hF hF ?_;intro wP W a NQ ho oB hF;have af4:=aF (h0.trans xe).size NQ;have acw:=aF (Hc.trans xe).size NQ;have tT:=aF (dp.trans xe).size NQ;have af1:=aF (hE.trans xe).size NQ;have acv:=aF xe.size NQ;replace xe:=xe.trans ho;replace K63:=bE K63 ho;replace h0:=h0.trans xe;replace Hc:=Hc.trans xe;replace dp:=dp.trans xe;replace hE:=hE.trans xe;rename ak=>W10;have h10:=Old.refl W10;refine Qc quiet ⟨[],[],[],[]⟩ (#[ag af 0,ag af 0]) (#[ag af 21,ag af 31]) (aS 2) hF hF (bE oB h10) ?_;intro W a up oB hF;replace h0:=up _ (h0.trans h10) af4;replace Hc:=up _ (Hc.trans h10) acw;replace dp:=up _ (dp.trans h10) tT;replace hE:=up _ (hE.trans h10) af1;replace xe:=up _ (xe.trans h10) acv;clear up;rename ak=>rp;have bU:=Old.refl rp;refine dt quiet 8 1 0 ⟨[],[],[],[]⟩ [(11,ag af 0)] hF hF trivial trivial ?_;intro a W ho hF;replace bU:=bU.trans ho;refine lF quiet aW ?_;refine lG quiet (N:=8) rfl ?_;refine dt quiet 0 1 7 ⟨[],[],[(B1,(ex.cells m (ae none 0 0) (ae none 0 0)))],[]⟩ [(68,aR (ex.cells m (ae none 0 0) (ae none 0 0)))] hF hF ⟨fun w1 hS=>⟨_,_,(F.old (hE.trans (bU.trans hS))).bk⟩,trivial⟩ trivial ?_;intro a W ho hF;replace bU:=bU.trans ho;refine nG quiet ⟨[],[],[],[]⟩ (some 69) (fun B=>ae (some ⟨B,0,none⟩) 2 2) #[ag af 1,ag af 3] 3 hF hF ?_;intro B69 W a _ ho K69 hF;replace bU:=bU.trans ho;refine dt quiet 2 6 0 ⟨[],[(2,cH #[ag af 1,ag af 0])],[],[]⟩ [(12,ag af 1),(13,ag af 0)] hF hF trivial ⟨fun w1 hS _=>have F:=F.old (hE.trans (bU.trans hS));gc (args:=#[aR (ex.cells m (ae none 0 0) (ae none 0 0)),ae (some ⟨B69,0,none⟩) 2 2]) (acA F.laid F.ex.own.tocQ _ (bE K69 hS)),trivial⟩ ?_;intro a W ho hF;replace bU:=bU.trans ho;replace K69:=bE K69 ho;refine lF quiet aW ?_;refine lG quiet (N:=8) rfl ?_;refine dt quiet 0 1 7 ⟨[],[],[(B1,(ex.cells m (ae none 0 0) (ae none 0 0)))],[]⟩ [(74,aR (ex.cells m (ae none 0 0) (ae none 0 0)))] hF hF ⟨fun w1 hS=>⟨_,_,(F.old (hE.trans (bU.trans hS))).bk⟩,trivial⟩ trivial ?_;intro a W ho hF;replace bU:=bU.trans ho;refine nG quiet ⟨[],[],[],[]⟩ (some 75) (fun B=>ae (some ⟨B,0,none⟩) 2 2) #[ag af 1,ag af 2] 3 hF hF ?_;intro B75 W a _ ho K75 hF;replace bU:=bU.trans ho;refine dt quiet 2 6 0 ⟨[],[(2,cH #[ag af 0,ag af 0])],[],[]⟩ [(14,ag af 0),(15,ag af 0)] hF hF trivial ⟨fun w1 hS _=>have F:=F.old (hE.trans (bU.trans hS));gc (args:=#[aR (ex.cells m (ae none 0 0) (ae none 0 0)),ae (some ⟨B75,0,none⟩) 2 2]) (YW F.laid F.ex.own.tocQ _ (bE K75 hS)),trivial⟩ ?_;intro a W ho hF;replace bU:=bU.trans ho;replace K75:=bE K75 ho;refine lF quiet aW ?_;refine FT quiet aW ⟨[],[(1,cH #[ag af 2,aI true,ag af 0])],[(B1,(ex.cells m (ae none 0 0) (ae none 0 0)))],[]⟩ [(16,ag af 2),(17,aI true),(18,ag af 0)] hF hF ⟨fun w1 hS=>⟨_,_,(F.old (hE.trans (bU.trans hS))).bk⟩,trivial⟩ ⟨fun w1 hS _=>have F:=F.old (hE.trans (bU.trans hS));gc (args:=#[aR (ex.cells m (ae none 0 0) (ae none 0 0)),ae none 0 0]) (af8 F.laid F.ex.own.tocQ),trivial⟩ ?_;intro a W ho hF;replace bU:=bU.trans ho;refine lG quiet (N:=9) rfl ?_;refine dt quiet 0 1 8 ⟨[],[],[(B1,(ex.cells m (ae none 0 0) (ae none 0 0)))],[]⟩ [(86,aR (ex.cells m (ae none 0 0) (ae none 0 0)))] hF hF ⟨fun w1 hS=>⟨_,_,(F.old (hE.trans (bU.trans hS))).bk⟩,trivial⟩ trivial ?_;intro a W ho hF;replace bU:=bU.trans ho;have F1:=(F.old (hE.trans bU))
 refine V_ quiet ⟨[],[],[],[]⟩ (some 87) (f:=20) (args:=#[aR (ex.cells m (ae none 0 0) (ae none 0 0))]) hF hF (VM F1.laid F1.ex.own.tocQ F1.ex.pl (wZ _) (wZ _)) ?_;rintro _ W ⟨v19,rfl,LN,ho⟩ a hF;clear F1;replace bU:=bU.trans ho;replace h0:=h0.trans bU;replace Hc:=Hc.trans bU;replace dp:=dp.trans bU;replace hE:=hE.trans bU;replace xe:=xe.trans bU;rename ak=>W87;have O6:=Old.refl W87;refine dt quiet 2 7 0 ⟨[],[],[],[]⟩ [(19,v19),(20,aI true),(21,ag af 0)] hF hF trivial trivial ?_;intro a W ho hF;replace O6:=O6.trans ho;refine lF quiet aW ?_;refine lG quiet (N:=9) rfl ?_;refine dt quiet 0 1 8 ⟨[],[],[(B1,(ex.cells m (ae none 0 0) (ae none 0 0)))],[]⟩ [(92,aR (ex.cells m (ae none 0 0) (ae none 0 0)))] hF hF ⟨fun w1 hS=>⟨_,_,(F.old (hE.trans (O6.trans hS))).bk⟩,trivial⟩ trivial ?_;intro a W ho hF;replace O6:=O6.trans ho;have F1:=(F.old (hE.trans O6))
 refine V_ quiet ⟨[],[],[],[]⟩ (some 93) (f:=23) (args:=#[aR (ex.cells m (ae none 0 0) (ae none 0 0))]) hF hF (VK F1.laid F1.ex.own.tocQ F1.ex.pl (wZ _) (wZ _)) ?_;rintro _ W ⟨v22,rfl,LM,ho⟩ a hF;clear F1;replace O6:=O6.trans ho;replace h0:=h0.trans O6;replace Hc:=Hc.trans O6;replace dp:=dp.trans O6;replace hE:=hE.trans O6;replace xe:=xe.trans O6;replace bU:=bU.trans O6;rename ak=>W93;have TC:=Old.refl W93;refine dt quiet 2 7 0 ⟨[],[],[],[]⟩ [(22,v22),(23,aI true),(24,ag af 0)] hF hF trivial trivial ?_;intro a W ho hF;replace TC:=TC.trans ho;refine lF quiet aW ?_;refine jE quiet ?_;refine FT quiet (dz aW) ⟨[(99,false),(103,false),(107,false),(111,false),(115,false),(119,false),(123,false),(127,false),(131,false)],[],[],[]⟩ [(134,aI false)] hF hF trivial trivial ?_;intro a W ho hF;replace TC:=TC.trans ho;refine mK quiet (t:=false) (hF.g 0 rfl) ?_;replace hF:=hF.tl;refine mJ quiet (dz aW) fun τ0 δ0=>?_;have ho:=jF W τ0 δ0;replace TC:=TC.trans ho;generalize dH W τ0 δ0=W2 at *;rename ak=>W;refine jE quiet ?_;have hold:=(h0.trans TC)
 replace F:=F.old (hE.trans TC);replace r6:=r6.old (xe.trans TC);replace oB:=bE oB (bU.trans TC);replace LN:=LN.old (O6.trans TC);replace LM:=LM.old TC;rename ak=>W
 refine IY quiet kQ (dz aW) [pV (ag af 60),pV (aI false),pV (aI false),pV (ag af 18),pV (aI false),pV (aI false),pV (aI false),pV (v6),pL [44,38,29,20,11],pV (aI true),pV (aI false),pV (aI false),pV (aI false),pV (ag af 4),pV (aI false),pV (aI false),pV (aI false),pV (aR #[ag af 21,ag af 31]),pV (aR #[ag af 21,ag af 31]),pV (aI false),pV (aI false),pV (aI false),pV (ag af 1),pV (aI false),pV (aI false),pV (aI false),pV (ag af 0),pV (aI false),pV (aI false),pV (aI false),pV (ag af 2),pV (aI false),pV (aI false),pV (aI false),pV (aI true),pV (aI false),pV (aI false)]
  _ kQ hF.size hF.base ?_ ?_ ?_
 .exact⟨sV,sV,sV,sV,sV,sV,sV,sV,kL,sV,sV,sV,sV,sV,sV,sV,sV,sV,sV,sV,sV,sV,sV,sV,sV,sV,sV,sV,sV,sV,sV,sV,sV,sV,sV,sV,sV,trivial⟩
 .refine⟨?_,?_,?_,?_,?_,?_,?_,?_,?_,?_,?_,?_,?_,?_,?_,?_,?_,?_,?_,?_,?_,?_,?_,?_,?_,?_,?_,?_,?_,?_,?_,?_,?_,?_,?_,?_,?_,trivial⟩<;>rintro ev w1 hS hc hg hf ⟨-,-,-,-,-,-,-,-,-,-,-,b17,b16,-,b14,-,-,-,KT,-,-,-,xK,-,-,-,-,-,b8,-,b6,-,-,-,-,-,-,b4,-,b2,-,-,-,-⟩ hd
  all_goals try
   try have d0:ev (aL _)=_:=hd.1 rfl
   try have d1:ev (aL _)=_:=hd.2.1 rfl
   try have d2:ev (aL _)=_:=hd.2.2.1 rfl
   first|refine yw rfl ?_ rfl|refine gL d0 (yw rfl ?_ rfl)|refine gL d1 (yw rfl ?_ rfl)|refine gL d2 (yw rfl ?_ rfl)
   go_simp;done
  .have d6:ev (aL 141)=_:=hd.1 rfl;refine gL d6 ?_;refine Gw (v:=ae (some ⟨w1.heap.size,0,none⟩) 5 5) (w':=w1.alloc (au #[ag af 44,ag af 38,ag af 29,ag af 20,ag af 11] 3)) ?_ ⟨⟨_,rfl,az _ _⟩,cJ dx⟩;go_simp
  .have d7:ev (aL 142)=_:=hd.1 rfl;have d8:pL _ (ev (aL 143)) [] w1:=hd.2.1 rfl;have d6:ev (aL 141)=_:=hd.2.2.1 rfl;refine gL d6 ?_;obtain⟨q8,e8,hq8⟩:=d8;refine yc (od [44,38,29,20,11] _ _ w1 (r6.old hS) (jf (l:=[44,38,29,20,11]) hq8 dC)) ?_ fun _=>rfl;go_simp
  .have d16:ev (aL 151)=_:=hd.1 rfl;refine gL d16 ?_;exact E5 23 rfl xK (bE oB hS) Tryz.underlying23 rfl kQ rfl
  have d16:ev (aL 151)=_:=hd.1 rfl;refine gL d16 ?_;refine yc (A6 21 31 w1) ?_ fun _=>rfl;go_simp
 intro a W hR;have ho:=hR.s;replace F:=F.old ho;replace r6:=r6.old ho;replace oB:=bE oB ho;replace LN:=LN.old ho;replace LM:=LM.old ho;replace h0:=hold.trans ho;replace hF:=(hR.fr hF kQ).cons (t:=171) (hR.val 36);clear hold hR ho
 try clear a
 rename Act=>a;rename ak=>W;rename ak=>acQ;have kX:=Old.refl acQ;refine mK quiet (t:=false) (hF.g 0 rfl) ?_;replace hF:=hF.tl;refine mJ quiet (dz aW) fun τ0 δ0=>?_;have ho:=jF acQ τ0 δ0;replace kX:=kX.trans ho;generalize dH acQ τ0 δ0=W at *;rename ak=>W;refine jE quiet ?_;refine lG quiet (N:=18) rfl ?_;refine dt quiet 0 8 10 ⟨[(174,false),(178,false)],[],[],[]⟩ [(178,aI false),(179,v19)] hF hF trivial trivial ?_;intro a W ho hF;replace kX:=kX.trans ho;refine nG quiet ⟨[(178,false)],[],[],[]⟩ (some 180) (fun B=>ae (some ⟨B,0,none⟩) 2 2) #[ag af 1,ag af 3] 3 hF hF ?_;intro alu W a _ ho PO hF;replace kX:=kX.trans ho;refine dt quiet 9 5 4 ⟨[(178,false),(184,false)],[(9,aI true)],[],[]⟩ [(184,aI false),(185,v22)] hF hF trivial ⟨fun w1 hS _=>gc (args:=#[v19,ae (some ⟨alu,0,none⟩) 2 2]) (od [1,3] _ _ w1 (LN.old (kX.trans hS)) (jf (l:=[1,3]) (bE PO hS) dC)),trivial⟩ ?_;intro a W ho hF;replace kX:=kX.trans ho;replace PO:=bE PO ho;refine nG quiet ⟨[(184,false)],[],[],[]⟩ (some 186) (fun B=>ae (some ⟨B,0,none⟩) 2 2) #[ag af 2,ag af 4] 3 hF hF ?_;intro als W a _ ho acV hF;replace kX:=kX.trans ho;replace PO:=bE PO ho;refine dt quiet 15 3 0 ⟨[(184,false)],[(15,aI true)],[],[]⟩ [(189,aI false)] hF hF trivial ⟨fun w1 hS _=>gc (args:=#[v22,ae (some ⟨als,0,none⟩) 2 2]) (od [2,4] _ _ w1 (LM.old (kX.trans hS)) (jf (l:=[2,4]) (bE acV hS) dC)),trivial⟩ ?_;intro a W ho hF;replace kX:=kX.trans ho;replace PO:=bE PO ho;replace acV:=bE acV ho;refine lF quiet (dz aW) ?_;refine mK quiet (t:=false) (hF.g 0 rfl) ?_;replace hF:=hF.tl;refine mJ quiet (dz aW) fun τ0 δ0=>?_;have ho:=jF W τ0 δ0;replace kX:=kX.trans ho;generalize dH W τ0 δ0=W at *;rename ak=>W;replace hF:=hF.del 3;simp only[ju,fj,bz,reduceIte] at hF;refine lG quiet (N:=10) rfl ?_;refine dt quiet 0 1 9 ⟨[],[],[(B1,(ex.cells m (ae none 0 0) (ae none 0 0)))],[]⟩ [(191,aR (ex.cells m (ae none 0 0) (ae none 0 0)))] hF hF ⟨fun w1 hS=>⟨_,_,(F.old (kX.trans hS)).bk⟩,trivial⟩ trivial ?_;intro a W ho hF;replace kX:=kX.trans ho;refine nG quiet ⟨[],[],[],[]⟩ (some 192) (fun B=>ae (some ⟨B,0,none⟩) 2 2) #[ag af 1,ag af 3] 3 hF hF ?_;intro alr W a _ ho acU hF;replace kX:=kX.trans ho;refine dt quiet 2 8 0 ⟨[],[(2,cH #[ag af 44,aI true,ag af 0])],[],[]⟩ [(25,ag af 44),(26,aI true),(3,ag af 0)] hF hF trivial ⟨fun w1 hS _=>have F:=F.old (kX.trans hS);gc (args:=#[aR (ex.cells m (ae none 0 0) (ae none 0 0)),ae (some ⟨alr,0,none⟩) 2 2]) (SU F.laid F.ex.own.tocQ _ (bE acU hS)),trivial⟩ ?_;intro a W ho hF;replace kX:=kX.trans ho;replace acU:=bE acU ho;refine lF quiet aW ?_;replace hF:=hF.del 5;simp only[ju,fj,bz,reduceIte] at hF;refine lG quiet (N:=10) rfl ?_;refine dt quiet 0 1 9 ⟨[],[],[(B1,(ex.cells m (ae none 0 0) (ae none 0 0)))],[]⟩ [(198,aR (ex.cells m (ae none 0 0) (ae none 0 0)))] hF hF ⟨fun w1 hS=>⟨_,_,(F.old (kX.trans hS)).bk⟩,trivial⟩ trivial ?_;intro a W ho hF;replace kX:=kX.trans ho;refine nG quiet ⟨[],[],[],[]⟩ (some 199) (fun B=>ae (some ⟨B,0,none⟩) 1 1) #[ag af 1] 3 hF hF ?_;intro alq W a _ ho Wv hF;replace kX:=kX.trans ho;refine pS quiet ⟨[],[],[],[]⟩ (some 200) (f:=27) (args:=#[aR (ex.cells m (ae none 0 0) (ae none 0 0)),ae (some ⟨alq,0,none⟩) 1 1]) hF hF (fun w1 hS=>by have F:=F.old (kX.trans hS);exact acB F.laid F.ex.own.tocQ _ (bE Wv hS)) ?_;rintro w1 _ W hS ⟨v27,rfl,RB,hb⟩;refine⟨_,rfl,fun a hF=>?_⟩;have ho:=hS.trans (Old.of_below hb);replace kX:=kX.trans ho;replace Wv:=bE Wv ho;replace h0:=h0.trans kX;rename ak=>akL;have Kg:=Old.refl akL;refine dt quiet 3 7 0 ⟨[],[],[],[]⟩ [(27,v27),(28,aI true),(5,ag af 0)] hF hF trivial trivial ?_;intro a W ho hF;replace Wv:=bE Wv ho;replace Kg:=Kg.trans ho;refine lF quiet aW ?_;have hold:=(h0.trans Kg)
 replace F:=F.old (kX.trans Kg);replace r6:=r6.old (kX.trans Kg);replace oB:=bE oB (kX.trans Kg);replace LN:=LN.old (kX.trans Kg);replace LM:=LM.old (kX.trans Kg);replace RB:=RB.old Kg;replace hF:=hF.del 7;simp only[ju,fj,bz,reduceIte] at hF;rename ak=>W
 refine IY quiet kQ aW [pV (aR (ex.cells m (ae none 0 0) (ae none 0 0))),pV (aR #[ag af 11,ag af 11]),pV (aR #[ag af 1,ag af 11,ag af 11]),pU ex [sw],pU ex [sw],pB ex [sw],pV (ag af 0),pA W 28 15,pSB W ex [sw],pV (ag af 0)]
  _ kQ hF.size hF.base ?_ ?_ ?_
 .exact⟨sV,sV,sV,kU,kU,kB,sV,kA,kSB,sV,trivial⟩
 .refine⟨?_,?_,?_,?_,?_,?_,?_,?_,?_,?_,trivial⟩<;>rintro ev w1 hS hc hg hf ⟨-,-,-,-,-,-,-,-,-,-,-,-,-,-,-,-,-,-,-,-,-,-,-,-,-,-,-,-,-,-,-,-,-,-,-,-,-,-,-,-,-,-,-,-,-,-,-,-,-,-,-,-,-,-,b1,-,-,-⟩ hd
  all_goals try
   try have d0:ev (aL _)=_:=hd.1 rfl
   refine yw rfl ?_ rfl;go_simp;done
  .exact E5 28 rfl b1 ((F.old hS).bk) cM rfl kQ rfl
  .refine yc (DT 11 w1) ?_ fun _=>rfl;go_simp
  .have d0:ev (aL 205)=_:=hd.1 rfl;have d2:ev (aL 207)=_:=hd.2.1 rfl;have F1:=F.old hS;refine jO (f:=75) (args:=#[aR (ex.cells m (ae none 0 0) (ae none 0 0)),aR #[ag af 1,ag af 11,ag af 11]]) ?_ (acz F1.laid F1.ex.own.tocQ) ?_
   .go_simp
   rintro e w2 ⟨m,s,k,rfl,h1,hb⟩;exact⟨_,rfl,⟨m,s,k,rfl,h1⟩,cJ hb⟩
  .have d3:pU _ _ (ev (aL 208)) [] w1:=hd.1 rfl;exact yv rfl d3
  .have d4:pU _ _ (ev (aL 204)) [] w1:=hd.1 rfl;obtain⟨m,s,k,e0,hx⟩:=d4;refine Gw (v:=aR (ex.cells m s k)) (w':=w1) ?_ ⟨⟨m,s,k,rfl,hx⟩,cJ (aB _ _)⟩;go_simp
  .have d4:pU _ _ (ev (aL 204)) [] w1:=hd.1 rfl;obtain⟨m,s,k,e0,hx⟩:=d4;exact tV
  .refine Gw (v:=pv w1.heap.size 0) (w':=w1.alloc (au Ux 28)) ?_ ⟨⟨_,_,rfl,az _ _,rfl,hS.size⟩,cJ dx⟩;go_simp
  .have d7:pA _ _ _ (ev (aL 29)) [] w1:=hd.1 rfl;have d5:pB _ _ (ev (aL 209)) [] w1:=hd.2.1 rfl;obtain⟨B,z,eB,hB,hz,hge⟩:=d7;obtain⟨m,s,k,ex0,hx⟩:=d5;obtain⟨p1,c1,rfl,_⟩:=aT hx.rm;obtain⟨p2,c2,rfl,_⟩:=aT hx.rs;obtain⟨p3,c3,rfl,_⟩:=aT hx.rk;refine Lag.Yields.nt 28 _ _ rfl B (ex.cells (ae p1 j7.length c1) (ae p2 ([]:List Int).length c2) (ae p3 ([sw]:List Mk).length c3)) eB ex0 28 z hB kQ hz (by simp[cD]) ⟨⟨B,_,_,_,congrArg some eB,hge,dg hB,hx.uQ hB⟩,.inr ⟨EO hS hge,?_⟩⟩;intro j u ds hj hp
   match j,hp with
   |0,hp|1,hp|2,hp=>exact hp
   |3,⟨m,s,k,h1,h2⟩=>exact⟨m,s,k,h1,h2.uQ hB⟩
   |4,⟨m,s,k,h1,h2⟩=>exact⟨m,s,k,h1,h2.uQ hB⟩
   |5,⟨m,s,k,h1,h2⟩=>exact⟨m,s,k,h1,h2.uQ hB⟩
   |6,hp=>exact hp
   |7,⟨B',z',h1,h2,h3,h4⟩=>
    by_cases qu:B'=B
    .subst qu;rw[hB] at h2;cases h2;exact⟨B',_,h1,dg hB,hz.symm.trans h3,h4⟩
    exact⟨B',z',h1,(setRow_other qu).trans h2,h3,h4⟩
   |8,_=>exact(hj rfl).elim
   |9,hp=>exact hp
   |j+10,_=>trivial
 intro a W hR;have ho:=hR.s;obtain⟨B29,m2,s2,k2,q1,q2,q3,q4⟩:=hR.val 8;have e29:a.eval (aL 29)=pv B29 0:=bp q1;have C:BrC ex [sw] B29 m2 s2 k2 W:=⟨q3,q4⟩
 clear q1 q2 q3 q4;replace F:=F.old ho;replace r6:=r6.old ho;replace oB:=bE oB ho;replace LN:=LN.old ho;replace LM:=LM.old ho;replace RB:=RB.old ho;replace h0:=hold.trans ho;replace hF:=((hR.fr hF kQ).cons (t:=29) e29).cons (t:=7) (hR.val 9);clear hold hR ho e29
 try clear a
 rename Act=>a;rename ak=>W;rename ak=>akF;have qR:=Old.refl akF;replace hF:=hF.del 9;simp only[ju,fj,bz,reduceIte] at hF;refine FT quiet aW ⟨[],[(1,cH #[ag af 3,ag af 0])],[(B29,(ex.cells m2 s2 k2))],[]⟩ [(30,ag af 3),(9,ag af 0)] hF hF ⟨fun w1 hS=>⟨_,_,(C.old (qR.trans hS)).bk⟩,trivial⟩ ⟨fun w1 hS _=>have F:=F.old (qR.trans hS);have C:=C.old (qR.trans hS);gc (args:=#[aR (ex.cells m2 s2 k2)]) (SV F.laid C.own.tocQ),trivial⟩ ?_;intro a W ho hF;replace qR:=qR.trans ho;replace hF:=hF.del 11;simp only[ju,fj,bz,reduceIte] at hF;refine lG quiet (N:=7) rfl ?_;refine dt quiet 0 1 6 ⟨[],[],[(B29,(ex.cells m2 s2 k2))],[]⟩ [(217,aR (ex.cells m2 s2 k2))] hF hF ⟨fun w1 hS=>⟨_,_,(C.old (qR.trans hS)).bk⟩,trivial⟩ trivial ?_;intro a W ho hF;replace qR:=qR.trans ho;refine pS quiet ⟨[],[],[],[]⟩ (some 218) (f:=58) (args:=#[aR (ex.cells m2 s2 k2),ag af 0]) hF hF (fun w1 hS=>by have F:=F.old (qR.trans hS);have C:=C.old (qR.trans hS);exact SX F.laid C.own.tocQ) ?_;rintro w1 _ W hS ⟨v31,rfl,XK,hb⟩;refine⟨_,rfl,fun a hF=>?_⟩;have ho:=hS.trans (Old.of_below hb);replace qR:=qR.trans ho;replace h0:=h0.trans qR;rename ak=>akK;have xC:=Old.refl akK;refine dt quiet 2 5 0 ⟨[],[],[],[]⟩ [(31,v31),(11,ag af 0)] hF hF trivial trivial ?_;intro a W ho hF;replace xC:=xC.trans ho;refine lF quiet aW ?_;replace hF:=hF.del 13;simp only[ju,fj,bz,reduceIte] at hF;refine FT quiet aW ⟨[],[(1,cH #[ag af 0,ag af 2,ag af 0])],[(B29,(ex.cells m2 s2 k2))],[]⟩ [(32,ag af 0),(33,ag af 2),(13,ag af 0)] hF hF ⟨fun w1 hS=>⟨_,_,(C.old (qR.trans (xC.trans hS))).bk⟩,trivial⟩ ⟨fun w1 hS _=>have F:=F.old (qR.trans (xC.trans hS));have C:=C.old (qR.trans (xC.trans hS));gc (args:=#[aR (ex.cells m2 s2 k2)]) (af9 F.laid C.own.tocQ),trivial⟩ ?_;intro a W ho hF;replace xC:=xC.trans ho;have hold:=(h0.trans xC)
 replace F:=F.old (qR.trans xC);replace r6:=r6.old (qR.trans xC);replace oB:=bE oB (qR.trans xC);replace LN:=LN.old (qR.trans xC);replace LM:=LM.old (qR.trans xC);replace RB:=RB.old (qR.trans xC);replace C:=C.old (qR.trans xC);replace XK:=XK.old xC;replace hF:=hF.del 15;simp only[ju,fj,bz,reduceIte] at hF;rename ak=>W
 refine IY quiet kQ aW [pV (aR (ex.cells m2 s2 k2)),pV (aR #[ag af 0,ag af 0]),pU (ex.lk 0 0) [sw],pU (ex.lk 0 0) [sw],pB (ex.lk 0 0) [sw],pV (ag af 0),pA W 28 15,pSB W (ex.lk 0 0) [sw],pV (ag af 0)]
  _ kQ hF.size hF.base ?_ ?_ ?_
 .exact⟨sV,sV,kU,kU,kB,sV,kA,kSB,sV,trivial⟩
 .refine⟨?_,?_,?_,?_,?_,?_,?_,?_,?_,trivial⟩<;>rintro ev w1 hS hc hg hf ⟨-,-,-,-,-,-,-,-,-,-,b29,-,-,-,-,-,-,-,-,-,-,-,-,-,-,-,-,-,-,-,-,-,-,-,-,-,-,-,-,-,-,-,-,-,-,-,-,-,-,-,-,-,-,-,-,-,-,-,-,-,-,-,-,-,-⟩ hd
  .exact E5 28 rfl b29 ((C.old hS).bk) cM rfl kQ rfl
  .refine yc (DT 0 w1) ?_ fun _=>rfl;go_simp
  .have d0:ev (aL 228)=_:=hd.1 rfl;have d1:ev (aL 229)=_:=hd.2.1 rfl;have F1:=F.old hS;have C1:=C.old hS;refine jO (f:=80) (args:=#[aR (ex.cells m2 s2 k2),aR #[ag af 0,ag af 0]]) ?_ (YY F1.laid C1.own.tocQ) ?_
   .go_simp
   rintro e w2 ⟨m,s,k,rfl,h1,hb⟩;exact⟨_,rfl,⟨m,s,k,rfl,h1⟩,cJ hb⟩
  .have d2:pU _ _ (ev (aL 230)) [] w1:=hd.1 rfl;exact yv rfl d2
  .have d3:pU _ _ (ev (aL 227)) [] w1:=hd.1 rfl;obtain⟨m,s,k,e0,hx⟩:=d3;refine Gw (v:=aR ((ex.lk 0 0).cells m s k)) (w':=w1) ?_ ⟨⟨m,s,k,rfl,hx⟩,cJ (aB _ _)⟩;go_simp
  .have d3:pU _ _ (ev (aL 227)) [] w1:=hd.1 rfl;obtain⟨m,s,k,e0,hx⟩:=d3;exact tV
  .refine Gw (v:=pv w1.heap.size 0) (w':=w1.alloc (au Ux 28)) ?_ ⟨⟨_,_,rfl,az _ _,rfl,hS.size⟩,cJ dx⟩;go_simp
  .have d6:pA _ _ _ (ev (aL 34)) [] w1:=hd.1 rfl;have d4:pB _ _ (ev (aL 231)) [] w1:=hd.2.1 rfl;obtain⟨B,z,eB,hB,hz,hge⟩:=d6;obtain⟨m,s,k,ex0,hx⟩:=d4;obtain⟨p1,c1,rfl,_⟩:=aT hx.rm;obtain⟨p2,c2,rfl,_⟩:=aT hx.rs;obtain⟨p3,c3,rfl,_⟩:=aT hx.rk;refine Lag.Yields.nt 28 _ _ rfl B ((ex.lk 0 0).cells (ae p1 j7.length c1) (ae p2 ([]:List Int).length c2) (ae p3 ([sw]:List Mk).length c3)) eB ex0 28 z hB kQ hz (by simp[cD]) ⟨⟨B,_,_,_,congrArg some eB,hge,dg hB,hx.uQ hB⟩,.inr ⟨EO hS hge,?_⟩⟩;intro j u ds hj hp
   match j,hp with
   |0,hp|1,hp=>exact hp
   |2,⟨m,s,k,h1,h2⟩=>exact⟨m,s,k,h1,h2.uQ hB⟩
   |3,⟨m,s,k,h1,h2⟩=>exact⟨m,s,k,h1,h2.uQ hB⟩
   |4,⟨m,s,k,h1,h2⟩=>exact⟨m,s,k,h1,h2.uQ hB⟩
   |5,hp=>exact hp
   |6,⟨B',z',h1,h2,h3,h4⟩=>
    by_cases qu:B'=B
    .subst qu;rw[hB] at h2;cases h2;exact⟨B',_,h1,dg hB,hz.symm.trans h3,h4⟩
    exact⟨B',z',h1,(setRow_other qu).trans h2,h3,h4⟩
   |7,_=>exact(hj rfl).elim
   |8,hp=>exact hp
   |j+9,_=>trivial
  have d5:ev (aL 232)=_:=hd.1 rfl;exact tV
 intro a W hR;have ho:=hR.s;obtain⟨B34,m3,s3,k3,q1,q2,q3,q4⟩:=hR.val 7;have e34:a.eval (aL 34)=pv B34 0:=bp q1;have O:BrC (ex.lk 0 0) [sw] B34 m3 s3 k3 W:=⟨q3,q4⟩
 clear q1 q2 q3 q4;replace F:=F.old ho;replace r6:=r6.old ho;replace oB:=bE oB ho;replace LN:=LN.old ho;replace LM:=LM.old ho;replace RB:=RB.old ho;replace C:=C.old ho;replace XK:=XK.old ho;replace h0:=hold.trans ho;replace hF:=((hR.fr hF kQ).cons (t:=34) e34).cons (t:=15) (hR.val 8);clear hold hR ho e34
 try clear a
 rename Act=>a;rename ak=>W;rename ak=>akE;have tP:=Old.refl akE;replace hF:=hF.del 18;simp only[ju,fj,bz,reduceIte] at hF;refine lG quiet (N:=7) rfl ?_;refine dt quiet 0 1 6 ⟨[],[],[(B34,((ex.lk 0 0).cells m3 s3 k3))],[]⟩ [(234,aR ((ex.lk 0 0).cells m3 s3 k3))] hF hF ⟨fun w1 hS=>⟨_,_,(O.old (tP.trans hS)).bk⟩,trivial⟩ trivial ?_;intro a W ho hF;replace tP:=tP.trans ho;refine pS quiet ⟨[],[],[],[]⟩ (some 235) (f:=58) (args:=#[aR ((ex.lk 0 0).cells m3 s3 k3),ag af 0]) hF hF (fun w1 hS=>by have F:=F.old (tP.trans hS);have O:=O.old (tP.trans hS);exact Pc F.laid O.own.tocQ) ?_;rintro w1 _ W hS ⟨v35,rfl,r35,hb⟩;refine⟨_,rfl,fun a hF=>?_⟩;have ho:=hS.trans (Old.of_below hb);replace tP:=tP.trans ho;replace h0:=h0.trans tP;rename ak=>akJ;have vu:=Old.refl akJ;refine dt quiet 2 5 0 ⟨[],[],[],[]⟩ [(35,v35),(18,ag af 0)] hF hF trivial trivial ?_;intro a W ho hF;replace vu:=vu.trans ho;refine lF quiet aW ?_;replace hF:=hF.del 21;simp only[ju,fj,bz,reduceIte] at hF;refine FT quiet aW ⟨[],[(1,cH #[aR iD,ag af 7])],[(B29,(ex.cells m2 s2 k2))],[]⟩ [(21,ag af 7)] hF hF ⟨fun w1 hS=>⟨_,_,(C.old (tP.trans (vu.trans hS))).bk⟩,trivial⟩ ⟨fun w1 hS _=>have F:=F.old (tP.trans (vu.trans hS));have C:=C.old (tP.trans (vu.trans hS));gc (args:=#[aR (ex.cells m2 s2 k2),ag af 1]) (acx F.laid C.own.tocQ),trivial⟩ ?_;intro a W ho hF;replace vu:=vu.trans ho;have hold:=(h0.trans vu)
 replace F:=F.old (tP.trans vu);replace r6:=r6.old (tP.trans vu);replace oB:=bE oB (tP.trans vu);replace LN:=LN.old (tP.trans vu);replace LM:=LM.old (tP.trans vu);replace RB:=RB.old (tP.trans vu);replace C:=C.old (tP.trans vu);replace XK:=XK.old (tP.trans vu);replace O:=O.old (tP.trans vu);replace r35:=r35.old vu;replace hF:=hF.del 24;simp only[ju,fj,bz,reduceIte] at hF;rename ak=>W
 refine IY quiet kQ aW [pV (aR (ex.cells m2 s2 k2)),pV (aR #[ag af 12,ag af 12]),pV (aR #[ag af 1,ag af 12,ag af 12]),pM m2 s2,pT [ag af 0] [0,1],pT [ag af 0] [0,1],pR [0,1],pV (ag af 0),pR [0,1],pV (ag af 0)]
  _ kQ hF.size hF.base ?_ ?_ ?_
 .exact⟨sV,sV,sV,kM,kT,kT,kR,sV,kR,sV,trivial⟩
 .refine⟨?_,?_,?_,?_,?_,?_,?_,?_,?_,?_,trivial⟩<;>rintro ev w1 hS hc hg hf ⟨-,-,-,-,-,-,-,-,-,-,-,-,-,-,-,-,-,b29,-,-,-,-,-,-,-,-,-,-,-,-,-,-,-,-,-,-,-,-,-,-,-,-,-,-,-,-,-,-,-,-,-,-,-,-,-,-,-,-,-,-,-,-,-,-,-,-,-,-,-⟩ hd
  all_goals try
   try have d0:ev (aL _)=_:=hd.1 rfl
   refine yw rfl ?_ rfl;go_simp;done
  .exact E5 28 rfl b29 ((C.old hS).bk) cM rfl kQ rfl
  .refine yc (DT 12 w1) ?_ fun _=>rfl;go_simp
  .have d0:ev (aL 244)=_:=hd.1 rfl;have d2:ev (aL 246)=_:=hd.2.1 rfl;have F1:=F.old hS;have C1:=C.old hS;refine jO (f:=88) (args:=#[aR (ex.cells m2 s2 k2),aR #[ag af 1,ag af 12,ag af 12]]) ?_ (VJ C1.own.tocQ) ?_
   .go_simp
   rintro e w2 ⟨k',rfl,h1,hb⟩;exact⟨_,rfl,⟨k',rfl,h1⟩,cJ hb⟩
  .have d3:pM _ _ (ev (aL 247)) [] w1:=hd.1 rfl;have F1:=F.old hS;obtain⟨k',e3,hk⟩:=d3;refine jO (f:=50) (args:=#[aR (ex.cells m2 s2 k')]) ?_ (YX F1.laid hk) ?_
   .go_simp
   rintro e w2 ⟨v,rfl,h1,hb⟩;exact⟨_,rfl,⟨v,rfl,h1⟩,cJ hb⟩
  .have d4:pT _ _ (ev (aL 248)) [] w1:=hd.1 rfl;exact yv rfl d4
  .have d5:pT _ _ (ev (aL 243)) [] w1:=hd.1 rfl;obtain⟨x,e0,hx⟩:=d5;refine yv (v:=x) ?_ hx;go_simp
  .have d5:pT _ _ (ev (aL 243)) [] w1:=hd.1 rfl;obtain⟨x,e0,hx⟩:=d5;exact tV
  have d6:pR _ (ev (aL 249)) [] w1:=hd.1 rfl;exact yv rfl d6
 intro a W hR;have ho:=hR.s;have r36:pR _ (a.eval (aL 36)) [] W:=hR.val 8;obtain⟨v36,e36⟩:∃v,a.eval (aL 36)=v:=⟨_,rfl⟩
 rw[e36] at r36;replace F:=F.old ho;replace r6:=r6.old ho;replace oB:=bE oB ho;replace LN:=LN.old ho;replace LM:=LM.old ho;replace RB:=RB.old ho;replace C:=C.old ho;replace XK:=XK.old ho;replace O:=O.old ho;replace r35:=r35.old ho;replace h0:=hold.trans ho;replace hF:=((hR.fr hF kQ).cons (t:=36) e36).cons (t:=24) (hR.val 9);clear hold hR ho e36
 try clear a
 rename Act=>a;rename ak=>W;rename ak=>akD;have ou:=Old.refl akD;refine jE quiet ?_;refine FT quiet (dz aW) ⟨[(253,false),(257,false),(261,false),(265,false),(269,false),(273,false),(277,false),(281,false),(285,false)],[],[],[]⟩ [(288,aI false)] hF hF trivial trivial ?_;intro a W ho hF;replace ou:=ou.trans ho;refine mK quiet (t:=false) (hF.g 0 rfl) ?_;replace hF:=hF.tl;refine mJ quiet (dz aW) fun τ0 δ0=>?_;have ho:=jF W τ0 δ0;replace ou:=ou.trans ho;generalize dH W τ0 δ0=W at *;rename ak=>W;replace hF:=hF.del 0;simp only[ju,fj,bz,reduceIte] at hF;refine lG quiet (N:=41) rfl ?_;refine dt quiet 0 10 31 ⟨[(291,true),(294,true),(297,true)],[],[],[]⟩ [(297,aI true),(298,v27)] hF hF trivial trivial ?_;intro a W ho hF;replace ou:=ou.trans ho;refine nG quiet ⟨[(297,true)],[],[],[]⟩ (some 299) (fun B=>ae (some ⟨B,0,none⟩) 1 1) #[ag af 0] 3 hF hF ?_;intro alp W a _ ho zk hF;replace ou:=ou.trans ho;refine dt quiet 11 8 22 ⟨[(297,true),(302,true),(306,true)],[(11,aI true)],[],[]⟩ [(306,aI true),(307,v31)] hF hF trivial ⟨fun w1 hS _=>gc (args:=#[v27,ae (some ⟨alp,0,none⟩) 1 1]) (od [0] _ _ w1 (RB.old (ou.trans hS)) (jf (l:=[0]) (bE zk hS) dC)),trivial⟩ ?_;intro a W ho hF;replace ou:=ou.trans ho;replace zk:=bE zk ho;refine nG quiet ⟨[(306,true)],[],[],[]⟩ (some 308) (fun B=>ae (some ⟨B,0,none⟩) 2 2) #[ag af 3,ag af 4] 3 hF hF ?_;intro alo W a _ ho Gi hF;replace ou:=ou.trans ho;replace zk:=bE zk ho;refine dt quiet 20 12 9 ⟨[(306,true),(311,true),(315,true),(319,true)],[(20,aI true)],[],[]⟩ [(319,aI true),(320,v35)] hF hF trivial ⟨fun w1 hS _=>gc (args:=#[v31,ae (some ⟨alo,0,none⟩) 2 2]) (od [3,4] _ _ w1 (XK.old (ou.trans hS)) (jf (l:=[3,4]) (bE Gi hS) dC)),trivial⟩ ?_;intro a W ho hF;replace ou:=ou.trans ho;replace zk:=bE zk ho;replace Gi:=bE Gi ho;refine nG quiet ⟨[(319,true)],[],[],[]⟩ (some 321) (fun B=>ae (some ⟨B,0,none⟩) 1 1) #[ag af 4] 3 hF hF ?_;intro aln W a _ ho PN hF;replace ou:=ou.trans ho;replace zk:=bE zk ho;replace Gi:=bE Gi ho;refine dt quiet 33 4 4 ⟨[(319,true),(324,true)],[(33,aI true)],[],[]⟩ [(324,aI true),(325,v36)] hF hF trivial ⟨fun w1 hS _=>gc (args:=#[v35,ae (some ⟨aln,0,none⟩) 1 1]) (od [4] _ _ w1 (r35.old (ou.trans hS)) (jf (l:=[4]) (bE PN hS) dC)),trivial⟩ ?_;intro a W ho hF;replace ou:=ou.trans ho;replace zk:=bE zk ho;replace Gi:=bE Gi ho;replace PN:=bE PN ho;refine nG quiet ⟨[(324,true)],[],[],[]⟩ (some 326) (fun B=>ae (some ⟨B,0,none⟩) 2 2) #[ag af 0,ag af 1] 3 hF hF ?_;intro alm W a _ ho acT hF;replace ou:=ou.trans ho;replace zk:=bE zk ho;replace Gi:=bE Gi ho;replace PN:=bE PN ho;refine dt quiet 38 3 0 ⟨[(324,true)],[(38,aI true)],[],[]⟩ [(0,aI true)] hF hF trivial ⟨fun w1 hS _=>gc (args:=#[v36,ae (some ⟨alm,0,none⟩) 2 2]) (od [0,1] _ _ w1 (r36.old (ou.trans hS)) (jf (l:=[0,1]) (bE acT hS) dC)),trivial⟩ ?_;intro a W ho hF;replace ou:=ou.trans ho;replace zk:=bE zk ho;replace Gi:=bE Gi ho;replace PN:=bE PN ho;replace acT:=bE acT ho;refine lF quiet aW ?_;exact kO quiet aW fun I d=>wp_ret ⟨hF.defers,_,bZ rfl _ _ _,(hF.g 0 rfl),mY I d (h0.trans ou)⟩
def gn4{P:Program}{kv i:Nat}{s:Sem Next}{w:ak}{v:aj}(h:lY P s w v)(hk:Nat.beq i kv=false:=by rfl):GX P kv i s w v:=by
 unfold GX;rw[hk];exact h
def sg.old{W W':ak}{p:Option Addr}{n c:Nat}{pk:Nat->Nat}(h:sg W p n c pk)(hb:Old W W'):sg W' p n c pk:=
 ⟨h.lt,h.out,fun k hk=>by obtain⟨g,off,h1,h2,h3⟩:=h.at_ k hk;exact⟨g,off,h1,bw h2 hb.size,(hb.cell (a:=⟨g,off+k,none⟩) h2).trans h3⟩⟩
def PD(lk:Int):∀(br:List Int),br.length<=3->(gG lk br).used=lk+br.sum
 |[],_=>by simp[gG,dS.used]
 |[a],_=>by simp[gG,dS.used]
 |[a,c],_=>by simp[gG,dS.used];omega
 |[a,c,d],_=>by simp[gG,dS.used];omega
 |_::_::_::_::_,h=>by simp at h
def A7:∀(l:List Int),(∀x∈l,0<=x/\x<=99)->0<=l.sum/\l.sum<=99*(l.length:Int)
 |[],_=>by simp
 |a::r,h=>by
  have h1:=h a sM;have h2:=A7 r fun x hx=>h x (by simp[hx]);simp only[List.sum_cons,List.length_cons];omega
def Yc(b:BB){pl:List Int}(hp:∀x∈pl,1<=x)(k:Nat):zR b (bJ pl) (k+1)=(if ((k:Int)+1)∈pl then b.iU else 0)+(if aV ((k:Int)+1) b.pl b.pm=true then b.iO else 0):=by
 unfold zR
 have h1:((bJ pl).testBit (k+1)=true)=(((k:Int)+1)∈pl):=by
  rw[RH,List.any_eq_true];refine propext ⟨?_,fun h=>⟨_,h,sM⟩⟩;rintro⟨s,h2,h3⟩;have h4:=hp s h2;have h5:s.toNat=k+1:=by simpa using h3
  have h6:s=(k:Int)+1:=oM;rwa [<-h6]
 have h2:(b.pl<=((k+1:Nat):Int)/\((k+1:Nat):Int)<=b.pm)=(aV ((k:Int)+1) b.pl b.pm=true):=by
  unfold aV;simp
 simp only[h1,h2]
def Ya{b:BB}(h:b.Ok)(p m:Nat):zR b p m<=198:=by
 have h1:=h.iU;have h2:=h.iO;unfold zR;split<;>split<;>omega
def S2{P:Program}{aP:Array Oper}{Q:Exit->Act->ak->Prop}{n:Nat}{id:Nat}{a0:Act}{w:ak}{late:List (Nat × Tmp × aj)}(hm:P.follows .mixedOrders=true)(Vs:List Pred)(S:Ph.Ls->ak->Prop)(base:List (Tmp × aj))(hok:ja aP n base=true)(hn:a0.tmps.size=n)(Bq:Ph.jo S Vs)
  (IQ:∀(L L':Ph.Ls) w w',(∀t,L' t=false->L t=false)->S L w->Bw w w'->S L' w') (hS:S (fun _=>false) w.drew) (hbase:gh a0.eval base) (hlate:Ph.Gh aP a0.eval late) (hE:Ph.Each (Lag.Yields P) aP Vs S base late 0 aP.toList) (hQ:∀a w,Ph.jh aP Vs S a0 (bF aP.size true) a w->Q .normal a w):(Code.region id aP true).wp P Q a0 w:=
 Ph.qE hm Vs S base (by rw[hn];exact hok) Bq IQ hS hbase hlate hE hQ
def UG{a c:Int}(h:c<=a)(w:ak):(Cj #[3,3] 3 #[ag af a,ag af c]).run aq w=.ok (ag af a) w:=by
 rw[EZ,show max a c=a by omega]
def UB{a c:Int}(h:a<=c)(w:ak):(Ci #[3,3] 3 #[ag af a,ag af c]).run aq w=.ok (ag af a) w:=by
 rw[EX,show min a c=a by omega]
def MR{o:Oper}{ev:bI->aj}{w:ak}{x y:bI}{a c:Int}(ho:o.op=.call { callee:=.builtin .min,args:=#[x,y],argTypes:=#[3,3] })(ht:o.type=3)(hx:ev x=ag af a)(hy:ev y=ag af c):(bY ev o).run aq w=.ok (.value (ag af (min a c))) w:=by
 unfold bY;simp only[ho,resolve,invoke,builtin,mI,Sem.run_pure,h_,HV,List.map_cons,List.map_nil,hx,hy,ht,EX]
def MT{o:Oper}{ev:bI->aj}{w:ak}{x y:bI}{a c:Int}(ho:o.op=.call { callee:=.builtin .max,args:=#[x,y],argTypes:=#[3,3] })(ht:o.type=3)(hx:ev x=ag af a)(hy:ev y=ag af c):(bY ev o).run aq w=.ok (.value (ag af (max a c))) w:=by
 unfold bY;simp only[ho,resolve,invoke,builtin,mI,Sem.run_pure,h_,HV,List.map_cons,List.map_nil,hx,hy,ht,EZ]
def SQ{o:Oper}{ev:bI->aj}{w:ak}{x y:bI}{a c:Int}(ho:o.op=.call { callee:=.builtin .max,args:=#[x,y],argTypes:=#[3,3] })(ht:o.type=3)(hx:ev x=ag af a)(hy:ev y=ag af c)(h:c<=a):(bY ev o).run aq w=.ok (.value (ag af a)) w:=by
 have h2:=MT (w:=w) ho ht hx hy;rwa [show max a c=a by omega] at h2
def SN{o:Oper}{ev:bI->aj}{w:ak}{x y:bI}{a c:Int}(ho:o.op=.call { callee:=.builtin .min,args:=#[x,y],argTypes:=#[3,3] })(ht:o.type=3)(hx:ev x=ag af a)(hy:ev y=ag af c)(h:a<=c):(bY ev o).run aq w=.ok (.value (ag af a)) w:=by
 have h2:=MR (w:=w) ho ht hx hy;rwa [show min a c=a by omega] at h2
def MU{o:Oper}{ev:bI->aj}{w:ak}{x y:bI}{t t':a7}{v u:Array aj}{r:aj}(ho:o.op=.binOp .eql t x y t')(hx:ev x=aR v)(hy:ev y=aR u)(hg:Tryz.prog.eqGuardType Tryz.prog.depth t=false)(hr:(Go.binOp .eql t (aR v) (aR u)).run aq w=.ok r w):(bY ev o).run aq w=.ok (.value r) w:=by
 unfold bY;simp only[ho,hx,hy,eqGuard,mI,h_];simp[hg,hr]
def VP(d:Nat)(x y z:Int)(w:ak):(uf (d+2) 132 (aR #[ag af x,ag af y,ag af z]) (aR #[ag af x,ag af y,ag af z])).run aq w=.ok true w:=by
 have u3:=Tryz.underlying3;have a3:=Tryz.isAgg3;have z3:=Tryz.sizeOf3;rw[uf];simp only[mI,run_underlying Tryz.underlying132,h_];simp only[rF,Std.Legacy.Range.size,Nat.sub_zero,Nat.add_sub_cancel,Nat.div_one,List.range'_succ,List.range'_zero,List.forIn_cons,List.forIn_nil];go_simp
def YZ(x y z:Int)(w:ak):(Go.binOp .eql 132 (aR #[ag af x,ag af y,ag af z]) (aR #[ag af x,ag af y,ag af z])).run aq w=.ok (aI true) w:=by
 rw[run_eql_struct,show(10000:Nat)=9998+2 from rfl,VP];rfl
def Y1(A:dS)(w:ak):(Go.binOp .eql 134 (aR A.cells) (aR A.cells)).run aq w=.ok (aI true) w:=by
 have ht:Tryz.prog.underlying 134=some (.struct (Tryz.prog.fieldsOf 134)):=kQ;have hp:Tryz.prog.stoodInHeld 134=false:=kQ
 have hf:(Tryz.prog.fieldsOf 134).toList=[{ name:= "leak",type:=3,offset:=0,embedded:=false,tag:= "",pkgPath:= "lagan/bell",byteOffset:=0 },{ name:= "men",type:=132,offset:=1,embedded:=false,tag:= "",pkgPath:= "lagan/bell",byteOffset:=8 }]:=kQ;have p1:∀x y z v w,(part 3 #[ag af x,ag af y,ag af z,ag af v] 0).run aq w=.ok (ag af x) w:=fun _ _ _ _ _=>by kernel_rfl
 have p2:∀x y z v w,(part 132 #[ag af x,ag af y,ag af z,ag af v] 1).run aq w=.ok (aR #[ag af y,ag af z,ag af v]) w:=fun _ _ _ _ _=>by kernel_rfl
 have e1:∀u v w,(uf 9999 3 (ag af u) (ag af v)).run aq w=.ok (u==v) w:=fun _ _ _=>by kernel_rfl
 have e2:∀x y z w,(uf 9999 132 (aR #[ag af x,ag af y,ag af z]) (aR #[ag af x,ag af y,ag af z])).run aq w=.ok true w:=fun x y z w=>VP 9997 x y z w;rw[run_eql_struct,show(10000:Nat)=9999+1 from rfl,run_equalIn_struct w 9999 134 _ _ ht hp,hf]
 have n1:("leak" : String)≠ "_":=dC
 have n2:("men" : String)≠ "_":=dC;simp only[Op.eqFields,n1,n2,ne_eq,not_false_eq_true,if_true,mI,p1,p2,e1,h_,beq_self_eq_true,Bool.not_true,Bool.false_eq_true,if_false];simp[p2,e2]
structure IcS(B7 B8 wP Gp E0:Nat)(bk m:Array aj)(A N:dS)(w0:ak)(C:Bool)(w:ak):Prop where
 k7:w.heap[B7]?=some (au bk 119 (0,0))
 k8:w.heap[B8]?=some (au A.cells 134 (0,0))
 k10:C=false->w.heap[wP]?=some (au N.cells 134 (0,0))
 k12:w.heap[Gp]?=some (au m 79 (0,0))
 below:Below E0 w0 w
section
variable{B7 B8 wP Gp E0:Nat}{bk m:Array aj}{A N:dS}{w0 w1 w2:ak}{C C':Bool}
theorem IcS.next(hC:C'=false->C=false)(h:IcS B7 B8 wP Gp E0 bk m A N w0 C w1)(hb:Bw w1 w2)(hE:E0<=w1.heap.size):IcS B7 B8 wP Gp E0 bk m A N w0 C' w2:=
 ⟨aA h.k7 hb,aA h.k8 hb,fun e=>aA (h.k10 (hC e)) hb,aA h.k12 hb,h.below.trans (hb.mono hE)⟩
theorem IcS.put(h:IcS B7 B8 wP Gp E0 bk m A N w0 C w1)(u:aj)(i:Nat)(hE:B7≠wP/\B8≠wP/\Gp≠wP/\E0<=wP):IcS B7 B8 wP Gp E0 bk m A N w0 true (w1.setCell ⟨wP,i,none⟩ u):=by
 have hn:∀q,q≠wP->(w1.setCell ⟨wP,i,none⟩ u).heap[q]?=w1.heap[q]?:=fun q hq=>Below.heap_setCell _ _ _ _ hq;exact⟨(hn _ hE.1).trans h.k7,(hn _ hE.2.1).trans h.k8,(fun e=>by cases e),(hn _ hE.2.2.1).trans h.k12,h.below.setCell (p:=⟨wP,i,none⟩) hE.2.2.2 _⟩
end
def Wd(lk:Int):∀(br:List Int) (k:Nat) (hl:br.length<=3) (hk:k<br.length),(gG lk br).cells[1+k]?=some (ag af br[k])/\(gG lk (br.take k)).cells.setIfInBounds (1+k) (ag af br[k])=(gG lk (br.take (k+1))).cells
 |[a],0,_,_=>⟨rfl,rfl⟩
 |[a,b],0,_,_=>⟨rfl,rfl⟩
 |[a,b],1,_,_=>⟨rfl,rfl⟩
 |[a,b,c],0,_,_=>⟨rfl,rfl⟩
 |[a,b,c],1,_,_=>⟨rfl,rfl⟩
 |[a,b,c],2,_,_=>⟨rfl,rfl⟩
 |[],k,_,h=>by simp at h
 |[_],k+1,_,h=>by simp at h
 |[_,_],k+2,_,h=>absurd h sM
 |[_,_,_],k+3,_,h=>absurd h sM
 |_::_::_::_::_,_,h,_=>by simp at h
def OI(b:BB)(p1 p2 p3 pb:Option Addr)(c1 c2 c3 cb:Nat)(ml:List Mn)(ss:List Int)(ms:List Mk)(w:ak)(hL:Laid w)(hB:cQ b (ae p1 ml.length c1) (ae p2 ss.length c2) (ae p3 ms.length c3) ml ss ms w)(lk:Int)(hlk:b.ll<=lk/\lk<=b.lm)(br:List Int)(hl:br.length=ml.length)(hin:∀i (h:i<ml.length) (h':i<br.length),ml[i].lo<=br[i]/\br[i]<=ml[i].hi)(hv:Reads w (ae pb br.length cb) br.length (br.map (aD af)))(DX:sA b (b.bS+(gG lk br).used) (bJ ss) ms=true):bm aq 69 #[aR (b.sl p1 ml.length c1 p2 ss.length c2 p3 ms.length c3),aR #[ag af lk,ae pb br.length cb]] w (Rt w (cH #[aI true,ag af 0])):=by
 have hok:=hB.ok;have yI:=hB.gS;have KQ:=yI.len;have apb:=hok.leak;have qu:∀x∈br,0<=x/\x<=99:=fun x hx=>by obtain⟨i,hi,rfl⟩:=List.mem_iff_getElem.1 hx;have h1:=hin i oM hi;have h2:=yI.mem ml[i] (bQ _);omega
 have afx:br.length<=3:=oM;have HC:∀w9,Bw w w9->_:=fun w9 h9=>eO b _ _ _ ml ss ms w9 (hL.below h9) (hB.below h9);have HH:∀w9,Bw w w9->_:=fun w9 h9=>Fs b (ae p1 ml.length c1) (ae p2 ss.length c2) (ae p3 ms.length c3) (ae pb br.length cb) ml KQ lk oM br qu hl w9 (hB.rm.below h9) (hv.below h9);have hAt:=fun k hk=>Wd lk br k afx hk;obtain⟨A,hA⟩:∃A,gG lk br=A:=⟨_,rfl⟩
 have hAl:A.leak=lk:=by rw[<-hA];rfl
 have ajL:A.Ok:=by rw[<-hA];exact Ge oM afx qu
 rw[hA] at HH DX;have HM:∀w9,Bw w w9->_:=fun w9 h9=>E3 b hok (ae p1 ml.length c1) (ae p2 ss.length c2) (ae p3 ms.length c3) ss hB.mE ms hB.kI A ajL w9 (hB.rs.below h9) (hB.rk.below h9);rw[DX] at HM;have ZH:=hB.rm;refine mP Tryz.func69 rfl rfl [(1,aR #[ag af lk,ae pb br.length cb]),(0,aR (b.sl p1 ml.length c1 p2 ss.length c2 p3 ms.length c3))] ⟨jg rfl,jg rfl,trivial⟩ fun a W hF hw=>?_;refine lT (N:=4) rfl ?_;refine kq ⟨[],[],[],[]⟩ (some 2) (fun B=>pv B 0) (b.sl p1 ml.length c1 p2 ss.length c2 p3 ms.length c3) 28 hF hF ?_;intro B2 W a G2 ho K2 hF;have acn:=aF hw.size G2;replace hw:=hw.tr ho;rename ak=>W2;have h2:=aB W2.heap.size W2;refine kq ⟨[],[],[],[]⟩ (some 3) (fun B=>pv B 0) (#[ag af lk,ae pb br.length cb]) 42 hF hF ?_;intro B3 W a G3 ho K3 hF;have YS:=aF (hw.tr h2).size G3;have afU:=aF h2.size G3;replace h2:=h2.tr ho;replace hw:=hw.tr h2;rename ak=>W3;have h3:=aB W3.heap.size W3;refine jU 2 2 0 [(4,aI false),(5,ag af 0)] hF ?_;intro a W ho hF;replace h3:=h3.tr ho;refine mC ?_;refine dR ?_;refine wF ⟨[],[(1,ag af 0)],[(B2,(b.sl p1 ml.length c1 p2 ss.length c2 p3 ms.length c3))],[]⟩ [(6,ag af 0)] hF hF ⟨fun w1 hS=>⟨_,_,aA K2 (h2.tr (h3.tr hS))⟩,trivial⟩ ⟨fun w1 hS _=>gc (HC w1 (hw.tr (h3.tr hS))),trivial⟩ ?_;intro a W ho hF;replace h3:=h3.tr ho;refine fP [(16,aI false)] hF ?_;intro a W ho hF;replace h3:=h3.tr ho;refine wp_cond (t:=false) (hF.g 0 rfl) ?_;replace hF:=hF.tl;refine ej ?_;refine lT (N:=4) rfl ?_;refine jr 0 2 2 ⟨[],[],[(B2,(b.sl p1 ml.length c1 p2 ss.length c2 p3 ms.length c3))],[]⟩ [(19,aR (b.sl p1 ml.length c1 p2 ss.length c2 p3 ms.length c3))] hF hF ⟨fun w1 hS=>⟨_,_,aA K2 (h2.tr (h3.tr hS))⟩,trivial⟩ trivial ?_;intro a W ho hF;replace h3:=h3.tr ho;refine kq ⟨[],[],[],[]⟩ (some 7) (fun B=>pv B 0) (AZ) 119 hF hF ?_;intro B7 W a G7 ho K7 hF;have ach:=aF (hw.tr h3).size G7;have aj3:=aF (h2.tr h3).size G7;have aj2:=aF h3.size G7;replace h3:=h3.tr ho;replace hw:=hw.tr h3;replace h2:=h2.tr h3;rename ak=>W7;have h7:=aB W7.heap.size W7;refine rL ⟨[],[],[],[]⟩ (AZ) (b.sl p1 ml.length c1 p2 ss.length c2 p3 ms.length c3) (aS 15) hF hF (aA K7 h7) ?_;intro W a up K7 hF;replace hw:=up.below (hw.tr h7) ach;replace h2:=up.below (h2.tr h7) aj3;replace h3:=up.below (h3.tr h7) aj2;clear up;rename ak=>vg;have dp:=aB vg.heap.size vg;refine mC ?_;refine lT (N:=9) rfl ?_;refine jr 0 6 3 ⟨[],[(2,cH #[aR A.cells,ag af 0])],[(B7,(b.sl p1 ml.length c1 p2 ss.length c2 p3 ms.length c3)),(B3,#[ag af lk,ae pb br.length cb])],[(1,1)]⟩ [(24,aR A.cells),(25,ag af 0)] hF hF ⟨fun w1 hS=>⟨_,_,aA K7 (dp.tr hS)⟩,fun w1 hS=>⟨_,_,aA K3 (h3.tr (dp.tr hS))⟩,trivial⟩ ⟨fun w1 hS _=>gc (HH w1 (hw.tr (dp.tr hS))),trivial⟩ ?_;intro a W ho hF;replace dp:=dp.tr ho;refine kq ⟨[],[],[],[]⟩ (some 8) (fun B=>pv B 0) (#[ag af 0,ag af 0,ag af 0,ag af 0]) 134 hF hF ?_;intro B8 W a G8 ho K8 hF;have ajZ:=aF (hw.tr dp).size G8;have aj1:=aF (h2.tr dp).size G8;have aj0:=aF (h3.tr dp).size G8;have YR:=aF dp.size G8;replace dp:=dp.tr ho;replace hw:=hw.tr dp;replace h2:=h2.tr dp;replace h3:=h3.tr dp;rename ak=>W8;have h8:=aB W8.heap.size W8;refine rL ⟨[],[],[],[]⟩ (#[ag af 0,ag af 0,ag af 0,ag af 0]) A.cells (aS 4) hF hF (aA K8 h8) ?_;intro W a up K8 hF;replace hw:=up.below (hw.tr h8) ajZ;replace h2:=up.below (h2.tr h8) aj1;replace h3:=up.below (h3.tr h8) aj0;replace dp:=up.below (dp.tr h8) YR;clear up;rename ak=>rp;have bU:=aB rp.heap.size rp;refine jU 8 1 0 [(9,ag af 0)] hF ?_;intro a W ho hF;replace bU:=bU.tr ho;refine mC ?_;refine dR ?_;refine fP [(27,aI false)] hF ?_;intro a W ho hF;replace bU:=bU.tr ho;refine wp_cond (t:=false) (hF.g 0 rfl) ?_;replace hF:=hF.tl;refine ej ?_;refine lT (N:=13) rfl ?_;refine jr 0 11 2 ⟨[],[(5,ag af A.leak),(9,ag af A.leak)],[(B8,A.cells),(B2,(b.sl p1 ml.length c1 p2 ss.length c2 p3 ms.length c3))],[(4,1),(8,1)]⟩ [(39,aR #[ag af A.leak,ag af 0,ag af 0,ag af 0])] hF hF ⟨fun w1 hS=>⟨_,_,aA K8 (bU.tr hS)⟩,fun w1 hS=>⟨_,_,aA K2 (h2.tr (bU.tr hS))⟩,trivial⟩ ⟨fun w1 hS _=>gs (Cj #[3,3] 3 #[ag af A.leak,ag af b.ll]) (UG oM w1),fun w1 hS _=>gs (Ci #[3,3] 3 #[ag af A.leak,ag af b.lm]) (UB oM w1),trivial⟩ ?_;intro a W ho hF;replace bU:=bU.tr ho;refine kq ⟨[],[],[],[]⟩ (some 10) (fun B=>pv B 0) (#[ag af 0,ag af 0,ag af 0,ag af 0]) 134 hF hF ?_;intro wP W a NQ ho oB hF;have QE:=aF (hw.tr bU).size NQ;have af3:=aF (h2.tr bU).size NQ;have VA:=aF (h3.tr bU).size NQ;have tT:=aF (dp.tr bU).size NQ;have MI:=aF bU.size NQ;replace bU:=bU.tr ho;replace hw:=hw.tr bU;replace h2:=h2.tr bU;replace h3:=h3.tr bU;replace dp:=dp.tr bU;rename ak=>W10;have h10:=aB W10.heap.size W10;refine rL ⟨[],[],[],[]⟩ (#[ag af 0,ag af 0,ag af 0,ag af 0]) (#[ag af A.leak,ag af 0,ag af 0,ag af 0]) (aS 4) hF hF (aA oB h10) ?_;intro W a up oB hF;replace hw:=up.below (hw.tr h10) QE;replace h2:=up.below (h2.tr h10) af3;replace h3:=up.below (h3.tr h10) VA;replace dp:=up.below (dp.tr h10) tT;replace bU:=up.below (bU.tr h10) MI;clear up;rename ak=>Nw;have xZ:=aB Nw.heap.size Nw;refine mC ?_;refine dR ?_;refine wF ⟨[],[],[(B2,(b.sl p1 ml.length c1 p2 ss.length c2 p3 ms.length c3))],[]⟩ [(41,ae p1 ml.length c1),(42,ag af ml.length),(43,ag af 0)] hF hF ⟨fun w1 hS=>⟨_,_,aA K2 (h2.tr (xZ.tr hS))⟩,trivial⟩ trivial ?_;intro a W ho hF;replace xZ:=xZ.tr ho;refine jv ?_;replace hF:=(((((((hF.del 39).del 25).del 24).del 19).del 3).del 2).del 1).del 0;simp only[ju,fj,bz,reduceIte] at hF;have n10:B7≠wP/\B8≠wP:=by have h1:=(ah.1 K7).1;have h2:=tT;have h3:=(ah.1 K8).1;have h4:=MI;omega
 have w10:w.heap.size<=wP:=QE;replace K7:=aA K7 (dp.tr xZ);replace K8:=aA K8 (bU.tr xZ);replace oB:=aA oB xZ;replace hw:=(hw.tr xZ)
 replace oB:W.heap[wP]?=some (au (gG lk (br.take 0)).cells 134 (0,0)):=by rw[oB,hAl];rfl
 refine wp_loop (fun a W=>∃k:Nat,k<=ml.length/\gw 79 a [(43,ag af (k:Int)),(42,ag af ml.length),(41,ae p1 ml.length c1),(10,pv wP 0),(9,ag af 0),(8,pv B8 0),(7,pv B7 0),(6,ag af 0),(5,ag af 0),(4,aI false)]/\W.heap[B7]?=some (au (b.sl p1 ml.length c1 p2 ss.length c2 p3 ms.length c3) 119 (0,0))/\W.heap[B8]?=some (au A.cells 134 (0,0))/\W.heap[wP]?=some (au (gG lk (br.take k)).cells 134 (0,0))/\Bw w W) (fun a _=>ml.length-(intOf (a.eval (aL 43))).toNat) ⟨0,gD _,⟨hF.size,hF.defers,hF.base⟩,K7,K8,oB,hw⟩ ?_;clear hF K7 K8 oB hw
 try clear a
 try clear W
 rintro a W ⟨k,hk,hF,K7,K8,oB,hw⟩;have aiX:a.eval (aL 43)=ag af (k:Int):=(hF.g 0 rfl)
 refine fP [(44,aI (decide ((k:Int)<(ml.length:Int))))] hF ?_;intro a W ho hF;replace hw:=hw.tr ho;replace K7:=aA K7 ho;replace K8:=aA K8 ho;replace oB:=aA oB ho;refine dR ?_;refine bW (t:=(decide ((k:Int)<(ml.length:Int)))) (hF.g 0 rfl) (fun abK=>?_) (fun abK=>?_)
 .replace hF:=hF.tl;have hlt:k<ml.length:=by simpa using abK
  have ae3:k<br.length:=oM;obtain⟨m,hme⟩:∃m,ml[k]=m:=⟨_,rfl⟩
  obtain⟨x,hx⟩:∃x,br[k]=x:=⟨_,rfl⟩
  have Sd:=hin k hlt ae3;have hAk:=hAt k ae3;rw[hme,hx] at Sd;rw[hx,hA] at hAk;have ME:=hF
  obtain⟨g,off,rfl,hcell⟩:∃g off,p1=some ⟨g,off,none⟩/\∀w9,Bw w w9->w9.cell? ⟨g,off+k*3,none⟩=some (.string m.name)/\w9.cell? ⟨g,off+k*3+1,none⟩=some (ag af m.lo)/\w9.cell? ⟨g,off+k*3+2,none⟩=some (ag af m.hi):=by
   rcases ZH with⟨_,h0,_⟩|⟨g,off,cap,h0,_,hg,h4⟩
   .omega
   cases h0;refine⟨g,off,rfl,fun w9 h9=>⟨?_,?_,?_⟩⟩
   .have:=(h9.cell (p:=⟨g,off+(3*k+0),none⟩) hg).trans (h4 (3*k+0) (.string m.name) (by rw[lh ml k 0 hlt oM,hme];rfl));rwa [show off+(3*k+0)=off+k*3 by omega] at this
   .have:=(h9.cell (p:=⟨g,off+(3*k+1),none⟩) hg).trans (h4 (3*k+1) (ag af m.lo) (by rw[lh ml k 1 hlt oM,hme];rfl));rwa [show off+(3*k+1)=off+k*3+1 by omega] at this
   have:=(h9.cell (p:=⟨g,off+(3*k+2),none⟩) hg).trans (h4 (3*k+2) (ag af m.hi) (by rw[lh ml k 2 hlt oM,hme];rfl));rwa [show off+(3*k+2)=off+k*3+2 by omega] at this
  replace hF:=ME;clear ME;refine ej ?_;refine dR ?_;refine jv ?_;refine lT (N:=6) rfl ?_;refine jr 0 3 3 ⟨[],[(1,eX (some ⟨g,off+k*3,none⟩)),(2,aR #[.string m.name,ag af m.lo,ag af m.hi])],[],[]⟩ [(45,ag af (k:Int)),(47,aR #[.string m.name,ag af m.lo,ag af m.hi])] hF hF trivial ⟨fun w1 hS _=>gs (fp 24 (ae (some ⟨g,off,none⟩) ml.length c1) (ag af (k:Int))) (by have AY:¬(ml.length<=k):=(by omega);go_simp),fun w1 hS _=>gs (Instr.loadAt 79 (eX (some ⟨g,off+k*3,none⟩))) (by have z1:=(hcell w1 (hw.tr hS)).1;have z2:=(hcell w1 (hw.tr hS)).2.1;have z3:=(hcell w1 (hw.tr hS)).2.2;go_simp),trivial⟩ ?_;intro a W ho hF;replace hw:=hw.tr ho;replace K7:=aA K7 ho;replace K8:=aA K8 ho;replace oB:=aA oB ho;refine kq ⟨[],[],[],[]⟩ (some 12) (fun B=>pv B 0) (#[.string ⟨#[]⟩,ag af 0,ag af 0]) 79 hF hF ?_;intro Gp W12 a G12 ho K12 hF;have n12:B7≠Gp/\B8≠Gp/\wP≠Gp:=by have h1:=(ah.1 K7).1;have h2:=(ah.1 K8).1;have h3:=(ah.1 oB).1;omega
  have w12:w.heap.size<=Gp:=aF hw.size G12;replace hw:=hw.tr ho;replace K7:=aA K7 ho;replace K8:=aA K8 ho;replace oB:=aA oB ho;clear ho G12;refine jU 4 1 1 [(11,ag af (k:Int))] hF ?_;intro a W ho hF;replace hw:=hw.tr ho;replace K7:=aA K7 ho;replace K8:=aA K8 ho;replace oB:=aA oB ho;replace K12:=aA K12 ho;refine rL ⟨[],[],[],[]⟩ (#[.string ⟨#[]⟩,ag af 0,ag af 0]) #[.string m.name,ag af m.lo,ag af m.hi] (aS 3) hF hF K12 ?_;intro W a up K12 hF;replace K7:=(up.block _ n12.1).trans K7;replace K8:=(up.block _ n12.2.1).trans K8;replace oB:=(up.block _ n12.2.2).trans oB;replace hw:=up.below hw w12;clear up;refine mC ?_;obtain⟨N,hN⟩:∃N,gG lk (br.take k)=N:=⟨_,rfl⟩
  obtain⟨N2,hN2⟩:∃N2,gG lk (br.take (k+1))=N2:=⟨_,rfl⟩
  rw[hN] at oB;rw[hN,hN2] at hAk;have HS:IcS B7 B8 wP Gp w.heap.size (b.sl (some ⟨g,off,none⟩) ml.length c1 p2 ss.length c2 p3 ms.length c3) #[.string m.name,ag af m.lo,ag af m.hi] A N w false W:=⟨K7,K8,fun _=>oB,K12,hw⟩
  refine QI kQ [
  fun v ds w9=>v=ag af (k:Int),
   fun v ds w9=>v=ag af (k:Int),
   fun v ds w9=>v=pv B8 1,
   fun v ds w9=>v=pv B8 (1+k),
   fun v ds w9=>v=ag af x,
   fun v ds w9=>v=pv Gp 1,
   fun v ds w9=>v=pv Gp 1,
   fun v ds w9=>v=ag af m.lo,
   fun v ds w9=>v=ag af x,
   fun v ds w9=>v=pv Gp 1,
   fun v ds w9=>v=pv Gp 2,
   fun v ds w9=>v=ag af m.hi,
   fun v ds w9=>v=ag af x,
   fun v ds w9=>v=pv wP 1,
   fun v ds w9=>v=pv wP (1+k),
   fun v ds w9=>w9.heap[wP]?=some (au N2.cells 134 (0,0))]
   (fun L9 w9=>IcS B7 B8 wP Gp w.heap.size (b.sl (some ⟨g,off,none⟩) ml.length c1 p2 ss.length c2 p3 ms.length c3) #[.string m.name,ag af m.lo,ag af m.hi] A N w (L9 15) w9/\w.heap.size<=w9.heap.size) [(8,pv B8 0),(10,pv wP 0),(11,ag af (k:Int)),(12,pv Gp 0)] kQ hF.size ?rst (fun L1 L2 w1 w2 hl h hb=>⟨h.1.next (hl 15) hb h.2,aF h.2 hb.size⟩) (⟨HS.next (fun h=>h) (aB _ _).drew hw.size,hw.size⟩) (by obtain⟨Gb,KT,-,-,-,-,-,xK,-,b8,-,-,-,-,-⟩:=hF.base;exact⟨b8,xK,Gb,KT,trivial⟩) ?reach ?rfin
  case rst=>
   refine⟨Ph.kS,Ph.kS,Ph.kS,Ph.kS,Ph.kS,Ph.kS,Ph.kS,Ph.kS,Ph.kS,Ph.kS,Ph.kS,Ph.kS,Ph.kS,Ph.kS,Ph.kS,?_,trivial⟩;rintro v ds L9 w1 w2 hS h1 hb;exact aA h1 hb
  case reach=>
   refine⟨?_,?_,?_,?_,?_,?_,?_,?_,?_,?_,?_,?_,?_,?_,?_,?_,trivial⟩
   .intro Lf ev w1 hn nw hS hc hg hf hb hd;obtain⟨b8,xK,Gb,KT,-⟩:=hb;exact Ph.tV
   .intro Lf ev w1 hn nw hS hc hg hf hb hd;obtain⟨b8,xK,Gb,KT,-⟩:=hb;exact Ph.tV
   .intro Lf ev w1 hn nw hS hc hg hf hb hd;obtain⟨b8,xK,Gb,KT,-⟩:=hb;exact Ph.tV
   .intro Lf ev w1 hn nw hS hc hg hf hb hd;obtain⟨b8,xK,Gb,KT,-⟩:=hb;have d2:(ev (aL 50))=pv B8 1:=hd.1 rfl;have d1:(ev (aL 49))=ag af (k:Int):=hd.2.1 rfl;refine Ph.yv ?_ rfl;go_simp;intro h9;omega
   .intro Lf ev w1 hn nw hS hc hg hf hb hd;obtain⟨b8,xK,Gb,KT,-⟩:=hb;have d3:(ev (aL 51))=pv B8 (1+k):=hd.1 rfl;have z:=aK hS.1.k8 (1+k) (ag af x) hAk.1;exact Ph.tV
   .intro Lf ev w1 hn nw hS hc hg hf hb hd;obtain⟨b8,xK,Gb,KT,-⟩:=hb;exact Ph.tV
   .intro Lf ev w1 hn nw hS hc hg hf hb hd;obtain⟨b8,xK,Gb,KT,-⟩:=hb;have d5:(ev (aL 53))=pv Gp 1:=hd.1 rfl;exact Ph.tV
   .intro Lf ev w1 hn nw hS hc hg hf hb hd;obtain⟨b8,xK,Gb,KT,-⟩:=hb;have d6:(ev (aL 54))=pv Gp 1:=hd.1 rfl;have z:=aK hS.1.k12 1 (ag af m.lo) rfl;exact Ph.tV
   .intro Lf ev w1 hn nw hS hc hg hf hb hd;obtain⟨b8,xK,Gb,KT,-⟩:=hb;have d4:(ev (aL 52))=ag af x:=hd.1 rfl;have d7:(ev (aL 55))=ag af m.lo:=hd.2.1 rfl;refine Gw (v:=(ag af x:aj)) (w':=w1) ?_ ⟨rfl,cJ (aB _ _)⟩;exact SQ rfl rfl d4 d7 oM
   .intro Lf ev w1 hn nw hS hc hg hf hb hd;obtain⟨b8,xK,Gb,KT,-⟩:=hb;exact Ph.tV
   .intro Lf ev w1 hn nw hS hc hg hf hb hd;obtain⟨b8,xK,Gb,KT,-⟩:=hb;have d9:(ev (aL 57))=pv Gp 1:=hd.1 rfl;exact Ph.tV
   .intro Lf ev w1 hn nw hS hc hg hf hb hd;obtain⟨b8,xK,Gb,KT,-⟩:=hb;have d10:(ev (aL 58))=pv Gp 2:=hd.1 rfl;have z:=aK hS.1.k12 2 (ag af m.hi) rfl;exact Ph.tV
   .intro Lf ev w1 hn nw hS hc hg hf hb hd;obtain⟨b8,xK,Gb,KT,-⟩:=hb;have d8:(ev (aL 56))=ag af x:=hd.1 rfl;have d11:(ev (aL 59))=ag af m.hi:=hd.2.1 rfl;refine Gw (v:=(ag af x:aj)) (w':=w1) ?_ ⟨rfl,cJ (aB _ _)⟩;exact SN rfl rfl d8 d11 oM
   .intro Lf ev w1 hn nw hS hc hg hf hb hd;obtain⟨b8,xK,Gb,KT,-⟩:=hb;exact Ph.tV
   .intro Lf ev w1 hn nw hS hc hg hf hb hd;obtain⟨b8,xK,Gb,KT,-⟩:=hb;have d13:(ev (aL 61))=pv wP 1:=hd.1 rfl;have d0:(ev (aL 48))=ag af (k:Int):=hd.2.1 rfl;refine Ph.yv ?_ rfl;go_simp;intro h9;omega
   intro Lf ev w1 hn nw hS hc hg hf hb hd;obtain⟨b8,xK,Gb,KT,-⟩:=hb;have d14:(ev (aL 62))=pv wP (1+k):=hd.1 rfl;have d12:(ev (aL 60))=ag af x:=hd.2.1 rfl;have qf:=hS.1.k10 nw;have f:=cZ qf (1+k);have hsz:1+k<N.cells.size:=(by omega:1+k<4)
   have z:=aK qf (1+k) _ (Array.getElem?_eq_getElem hsz);refine Lag.Yields.skip (w':=w1.setCell ⟨wP,1+k,none⟩ (ag af x)) ?_ ⟨(dc _ qf).trans (congrArg (fun z=>some (Obj.cells z 134 (0,0))) hAk.2),.inr ⟨⟨by simpa [Ph.upd] using hS.1.put (ag af x) (1+k) ⟨n10.1,n10.2,n12.2.2.symm,w10⟩,by simpa using hS.2⟩,?_⟩⟩
   .go_simp
   .intro t u ds hj hL hp
    match t,hp with
    |0,hp|1,hp|2,hp|3,hp|4,hp|5,hp|6,hp|7,hp|8,hp|9,hp|10,hp|11,hp|12,hp|13,hp|14,hp=>exact hp
    |15,_=>exact(hj rfl).elim
    |t+16,_=>trivial
  case rfin=>
   intro a W2 hR;have hS:=hR.s.1;have agy:W2.heap[wP]?=some (au N2.cells 134 (0,0)):=hR.val 15;replace hF:=hR.fr hF kQ;clear hR;replace K7:=hS.k7;replace K8:=hS.k8;replace hw:=hS.below;replace oB:=agy;rw[<-hN2] at oB;clear hS HS agy K12;rename ak=>W;have ov:=hF;replace hF:=hF.del 43;simp only[ju,fj,bz,reduceIte] at hF;refine KS ⟨[],[(0,ag af ((k:Int)+1))],[],[]⟩ [(43,ag af ((k:Int)+1))] ov hF trivial ⟨fun w1 hS _=>ge (congrArg (aD af) (show IntKind.i64.wrap ((k:Int)+1)=((k:Int)+1) by rw[bg];omega)),trivial⟩ ?_;intro a W ho hF;clear ov;replace hw:=hw.tr ho;replace K7:=aA K7 ho;replace K8:=aA K8 ho;replace oB:=aA oB ho;refine⟨⟨k+1,oM,⟨hF.size,hF.defers,(by obtain⟨b43,-,-,-,-,b42,b41,xK,b9,b8,b7,b6,b5,b4,-⟩:=hF.base;exact⟨b43,b42,b41,xK,b9,b8,b7,b6,b5,b4,trivial⟩)⟩,K7,K8,oB,hw⟩,?_⟩;rw[show a.eval (aL 43)=ag af ((k:Int)+1) from(hF.g 0 rfl)];simp only[aiX];simp[intOf];omega
 replace hF:=hF.tl;refine wp_exit ?_;obtain rfl:k=ml.length:=by simp at abK;omega
 rw[<-hl,Hz,hA] at oB;replace hF:=(hF.del 5).del 4;simp only[ju,fj,bz,reduceIte] at hF;refine wF ⟨[(67,true),(74,true)],[(2,aI true),(8,aI true),(13,aI true)],[(wP,A.cells),(B8,A.cells),(B7,(b.sl p1 ml.length c1 p2 ss.length c2 p3 ms.length c3))],[(1,1),(7,1),(11,2),(12,1)]⟩ [(4,aI true),(5,ag af 0)] hF hF ⟨fun w1 hS=>⟨_,_,aA oB hS⟩,fun w1 hS=>⟨_,_,aA K8 hS⟩,fun w1 hS=>⟨_,_,aA K7 hS⟩,trivial⟩ ⟨fun w1 hS _=>gr (MU (t:=134) (t':=134) (x:=aL 64) (y:=aL 65) (v:=A.cells) (u:=A.cells) kQ kQ kQ kQ (Y1 A w1)),fun w1 hS _=>gr (MU (t:=132) (t':=132) (x:=aL 69) (y:=aL 71) (v:=#[ag af A.m0,ag af A.m1,ag af A.m2]) (u:=#[ag af A.m0,ag af A.m1,ag af A.m2]) kQ kQ kQ kQ (YZ A.m0 A.m1 A.m2 w1)),fun w1 hS _=>gc (HM w1 (hw.tr hS)),trivial⟩ ?_;intro a W ho hF;replace hw:=hw.tr ho;replace K7:=aA K7 ho;replace K8:=aA K8 ho;replace oB:=aA oB ho;refine wp_ret ?_;refine bj (results_tmp2 rfl _ _ _) hF.defers ⟨?_,hw⟩;rw[show a.tmps.getD 4 undef=aI true from(hF.g 1 rfl),show a.tmps.getD 5 undef=ag af 0 from(hF.g 0 rfl)]
def S1(b:BB)(hb:b.Ok)(bq aM aC:aj)(n:Int)(hn:0<=n/\n<=999)(w:ak):bm aq 140 #[aR (b.cells bq aM aC),ag af n] w (Rt w (ag af (b.xg n))):=by
 have h2:=hb.depth;have h1:=b.VS hb hn.1 hn.2
 go_enter Tryz.func140,Tryz.ntmps140
 go_wp2
 go_ret
 exact⟨gR rfl,dx⟩
def Mr(b:BB)(hb:b.Ok)(bq aM aC:aj)(w:ak):bm aq 141 #[aR (b.cells bq aM aC)] w (Rt w (ag af b.holds)):=by
 have h1:=hb.room;have h2:=hb.depth;have h3:=b.wb hb;have h4:b.room*(33+b.depth)<=99*132:=Int.mul_le_mul oM oM oM oM;have h5:0<=b.room*(33+b.depth):=Int.mul_nonneg oM oM
 go_enter Tryz.func141,Tryz.ntmps141
 go_wp2
 go_ret
 exact⟨gR rfl,dx⟩
def NV(b:BB)(hb:b.Ok)(p1 p2 p3 pb:Option Addr)(n1 c1 n2 c2 n3 c3 cb:Nat)(lk:Int)(hlk:0<=lk/\lk<=99)(br:List Int)(hbl:br.length<=3)(qu:∀x∈br,0<=x/\x<=99)(w:ak)(hv:Reads w (ae pb br.length cb) br.length (br.map (aD af))):bm aq 174 #[aR (b.sl p1 n1 c1 p2 n2 c2 p3 n3 c3),aR #[ag af lk,ae pb br.length cb]] w (Rt w (ag af (b.bS+lk+br.sum))):=by
 have U1:=A7 br qu;have hl0:=hb.bS;refine mP Tryz.func174 rfl rfl [(1,aR #[ag af lk,ae pb br.length cb]),(0,aR (b.sl p1 n1 c1 p2 n2 c2 p3 n3 c3))] ⟨jg rfl,jg rfl,trivial⟩ fun a W hF hw=>?_;refine lT (N:=3) rfl ?_;refine kq ⟨[],[],[],[]⟩ (some 2) (fun B=>pv B 0) (b.sl p1 n1 c1 p2 n2 c2 p3 n3 c3) 28 hF hF ?_;intro B2 W a G2 ho K2 hF;have acn:=aF hw.size G2;replace hw:=hw.tr ho;rename ak=>W2;have h2:=aB W2.heap.size W2;refine kq ⟨[],[],[],[]⟩ (some 3) (fun B=>pv B 0) (#[ag af lk,ae pb br.length cb]) 42 hF hF ?_;intro B3 W a G3 ho K3 hF;have YS:=aF (hw.tr h2).size G3;have afU:=aF h2.size G3;replace h2:=h2.tr ho;replace hw:=hw.tr h2;rename ak=>W3;have h3:=aB W3.heap.size W3;refine jU 2 1 0 [(4,ag af 0)] hF ?_;intro a W ho hF;replace h3:=h3.tr ho;refine mC ?_;refine wF ⟨[],[(4,ag af (b.bS+lk))],[(B2,(b.sl p1 n1 c1 p2 n2 c2 p3 n3 c3)),(B3,#[ag af lk,ae pb br.length cb])],[(3,1)]⟩ [(5,ag af (b.bS+lk))] hF hF ⟨fun w1 hS=>⟨_,_,aA K2 (h2.tr (h3.tr hS))⟩,fun w1 hS=>⟨_,_,aA K3 (h3.tr hS)⟩,trivial⟩ ⟨fun w1 hS _=>ge (congrArg (aD af) (show IntKind.i64.wrap (b.bS+lk)=(b.bS+lk) by rw[bg];omega)),trivial⟩ ?_;intro a W ho hF;replace h3:=h3.tr ho;refine dR ?_;refine fP [(6,ag af 0)] hF ?_;intro a W ho hF;replace h3:=h3.tr ho;refine jv ?_;replace hF:=(hF.del 1).del 0;simp only[ju,fj,bz,reduceIte] at hF;replace hw:=hw.tr h3;replace h2:=h2.tr h3;rename ak=>WB;have hB:=aB WB.heap.size WB;replace hF:gw 27 a [(6,ag af 0),(5,ag af (b.bS+lk+(br.take 0).sum)),(4,ag af 0),(3,pv B3 0),(2,pv B2 0)]:=by rw[List.take_zero,List.sum_nil,Int.add_zero];exact hF
 refine wp_loop (fun a W=>∃k:Nat,k<=br.length/\gw 27 a [(6,ag af (k:Int)),(5,ag af (b.bS+lk+(br.take k).sum)),(4,ag af 0),(3,pv B3 0),(2,pv B2 0)]/\Bw WB W) (fun a _=>br.length-(intOf (a.eval (aL 6))).toNat) ⟨0,gD _,⟨hF.size,hF.defers,hF.base⟩,hB⟩ ?_;clear hF hB;rintro a W ⟨k,hk,hF,hB⟩;have hk6:a.eval (aL 6)=ag af (k:Int):=(hF.g 0 rfl)
 have hsb:=A7 (br.take k) fun y hy=>qu y (List.mem_of_mem_take hy);rw[List.length_take] at hsb;obtain⟨s,hs⟩:∃s,b.bS+lk+(br.take k).sum=s:=⟨_,rfl⟩
 rw[hs] at hF;refine dR ?_;refine wF ⟨[],[],[(B3,#[ag af lk,ae pb br.length cb])],[]⟩ [(16,aI (decide ((k:Int)<(br.length:Int))))] hF hF ⟨fun w1 hS=>⟨_,_,aA K3 (h3.tr (hB.tr hS))⟩,trivial⟩ trivial ?_;intro a W ho hF;replace hB:=hB.tr ho;refine bW (t:=(decide ((k:Int)<(br.length:Int)))) (hF.g 0 rfl) (fun abT=>?_) (fun abT=>?_)
 .replace hF:=hF.tl;have hlt:k<br.length:=by simpa using abT
  obtain⟨y,hy⟩:∃y,br[k]=y:=⟨_,rfl⟩
  have hyb:=qu y (hy▸bQ hlt);have ME:=hF
  obtain⟨g,off,rfl,hcell⟩:∃g off,pb=some ⟨g,off,none⟩/\∀w9,Bw w w9->w9.cell? ⟨g,off+k,none⟩=some (ag af y):=by
   rcases hv with⟨_,h0,_⟩|⟨g,off,cap,h0,_,hg,h4⟩
   .omega
   cases h0;exact⟨g,off,rfl,fun w9 h9=>(h9.cell (p:=⟨g,off+k,none⟩) hg).trans (h4 k _ (by rw[List.getElem?_map,eQ hlt,hy];rfl))⟩
  replace hF:=ME;clear ME;refine ej ?_;refine dR ?_;refine jv ?_;have ov:=hF;replace hF:=hF.del 5;simp only[ju,fj,bz,reduceIte] at hF;refine KS ⟨[],[(4,pv g (off+k)),(5,ag af y),(6,ag af (s+y))],[(B3,#[ag af lk,ae (some ⟨g,off,none⟩) br.length cb])],[]⟩ [(5,ag af (s+y))] ov hF ⟨fun w1 hS=>⟨_,_,aA K3 (h3.tr (hB.tr hS))⟩,trivial⟩ ⟨fun w1 hS _=>gs (fp 25 (ae (some ⟨g,off,none⟩) br.length cb) (ag af (k:Int))) (by have AY:¬(br.length<=k):=(by omega);go_simp),fun w1 hS _=>gl (hcell w1 (hw.tr (hB.tr hS))),fun w1 hS _=>ge (congrArg (aD af) (show IntKind.i64.wrap (s+y)=(s+y) by rw[bg];omega)),trivial⟩ ?_;intro a W ho hF;clear ov;replace hB:=hB.tr ho;have ov:=hF;replace hF:=hF.del 6;simp only[ju,fj,bz,reduceIte] at hF;refine KS ⟨[],[(1,ag af ((k:Int)+1))],[],[]⟩ [(6,ag af ((k:Int)+1))] ov hF trivial ⟨fun w1 hS _=>ge (congrArg (aD af) (show IntKind.i64.wrap ((k:Int)+1)=((k:Int)+1) by rw[bg];omega)),trivial⟩ ?_;intro a W ho hF;clear ov;replace hB:=hB.tr ho;have hs2:s+y=b.bS+lk+(br.take (k+1)).sum:=by rw[bO hlt,List.sum_append,<-hs,hy];simp;omega
  rw[hs2] at hF;refine⟨⟨k+1,oM,⟨hF.size,hF.defers,hF.base⟩,hB⟩,?_⟩;rw[show a.eval (aL 6)=ag af ((k:Int)+1) from(hF.g 0 rfl)];simp only[hk6];simp[intOf];omega
 replace hF:=hF.tl;refine wp_exit ?_;obtain rfl:k=br.length:=by simp at abT;omega
 rw[Hz] at hs;replace hF:=hF.del 4;simp only[ju,fj,bz,reduceIte] at hF;refine fP [(4,ag af s)] hF ?_;intro a W ho hF;replace hB:=hB.tr ho;refine wp_ret ?_;exact bj (bZ rfl _ _ _) hF.defers ⟨(congrArg bA (show a.eval (aL 4)=_ from(hF.g 0 rfl))).trans (by rw[<-hs]),(hw.tr hB)⟩
def Oi(b:BB)(hb:b.Ok)(p1 p2 p3 pb pq:Option Addr)(n1 c1 n2 c2 n3 c3 cb cq:Nat)(lk:Int)(hlk:0<=lk/\lk<=99)(br:List Int)(hbl:br.length<=3)(qu:∀x∈br,0<=x/\x<=99)(pl:List Int)(hpl:fM b pl)(w:ak)(hv:Reads w (ae pb br.length cb) br.length (br.map (aD af)))(hq:Reads w (ae pq pl.length cq) pl.length (pl.map (aD af))):bm aq 135 #[aR (b.sl p1 n1 c1 p2 n2 c2 p3 n3 c3),aR #[ag af lk,ae pb br.length cb],ae pq pl.length cq] w fun e w'=>∃v,e=bA v/\w'.ownsRow w.heap.size 3 1 v b.minutes.toNat ((b.js (b.bS+lk+br.sum) (bJ pl) b.minutes.toNat).map (aD af))/\Bw w w':=by
 have U1:=A7 br qu;have hl0:=hb.bS;have xu:=hb.minutes;have afp:=hb.iU;have aeM:=hb.iO;have hroom:=hb.room;have ai5:=b.wb hb;have aiA:∀y∈pl,1<=y:=fun y hy=>(hpl.mem y hy).1;have aeO:pl.length<=20:=by have:=hpl.len;have:=hb.eI;omega
 obtain⟨U,hU⟩:∃U,b.bS+lk+br.sum=U:=⟨_,rfl⟩
 have hU0:0<=U:=oM;have hU1:U<=495:=oM;obtain⟨mt,Xh⟩:∃mt,b.minutes.toNat=mt:=⟨_,rfl⟩
 have hmi:b.minutes=(mt:Int):=oM;obtain⟨pn,DW⟩:∃pn,bJ pl=pn:=⟨_,rfl⟩
 have HU:∀w9,Bw w w9->_:=fun w9 h9=>NV b hb p1 p2 p3 pb n1 c1 n2 c2 n3 c3 cb lk hlk br hbl qu w9 (hv.below h9);have HH:∀(v:Int) w9,Bw w w9->_:=fun v w9 h9=>MB pq cq pl aeO v w9 (hq.below h9);rw[hU,Xh,DW];rw[hU] at HU;refine mP Tryz.func135 rfl rfl [(2,ae pq pl.length cq),(1,aR #[ag af lk,ae pb br.length cb]),(0,aR (b.sl p1 n1 c1 p2 n2 c2 p3 n3 c3))] ⟨jg rfl,jg rfl,jg rfl,trivial⟩ fun a W hF hw=>?_;refine lT (N:=3) rfl ?_;refine kq ⟨[],[],[],[]⟩ (some 3) (fun B=>pv B 0) (b.sl p1 n1 c1 p2 n2 c2 p3 n3 c3) 28 hF hF ?_;intro B3 W a G3 ho K3 hF;have YS:=aF hw.size G3;replace hw:=hw.tr ho;rename ak=>W3;have h3:=aB W3.heap.size W3;refine kq ⟨[],[],[],[]⟩ (some 4) (fun B=>pv B 0) (#[ag af lk,ae pb br.length cb]) 42 hF hF ?_;intro B4 W a G4 ho K4 hF;have Vz:=aF (hw.tr h3).size G4;have afT:=aF h3.size G4;replace h3:=h3.tr ho;replace hw:=hw.tr h3;rename ak=>W4;have h4:=aB W4.heap.size W4;refine jU 2 1 0 [(6,ae none 0 0)] hF ?_;intro a W ho hF;replace h4:=h4.tr ho;refine mC ?_;refine fP [(7,ae none 0 0)] hF ?_;intro a W ho hF;replace h4:=h4.tr ho;refine wF ⟨[],[],[(B3,(b.sl p1 n1 c1 p2 n2 c2 p3 n3 c3))],[]⟩ [(8,ag af b.room)] hF hF ⟨fun w1 hS=>⟨_,_,aA K3 (h3.tr (h4.tr hS))⟩,trivial⟩ trivial ?_;intro a W ho hF;replace h4:=h4.tr ho;refine dR ?_;refine fP [(9,ag af 1)] hF ?_;intro a W ho hF;replace h4:=h4.tr ho;refine jv ?_;replace hF:=(hF.del 1).del 0;simp only[ju,fj,bz,reduceIte] at hF;replace hw:=hw.tr h4;replace h3:=h3.tr h4;rename ak=>WB;have hB:=aB WB.heap.size WB;obtain⟨i0,hi,hz0,hz1,hz2⟩:=info_parts info3;replace hF:gw 51 a [(9,ag af (((0:Nat):Int)+1)),(8,ag af (b.rj U pn 0)),(7,ae none 0 0),(6,ae none 0 0),(4,pv B4 0),(3,pv B3 0),(2,ae pq pl.length cq)]:=hF;refine wp_loop (fun a W=>∃(k:Nat) (v7:aj),k<=mt/\W.ownsRow WB.heap.size 3 1 v7 k ((b.js U pn k).map (aD af))/\gw 51 a [(9,ag af ((k:Int)+1)),(8,ag af (b.rj U pn k)),(7,v7),(6,ae none 0 0),(4,pv B4 0),(3,pv B3 0),(2,ae pq pl.length cq)]/\Bw WB W) (fun a _=>mt-((intOf (a.eval (aL 9))).toNat-1)) ⟨0,ae none 0 0,gD _,dG _ _ _ _,⟨hF.size,hF.defers,hF.base⟩,hB⟩ ?_;clear hF hB;rintro a W ⟨k,v7,hk,hown,hF,hB⟩;have hk9:a.eval (aL 9)=ag af ((k:Int)+1):=(hF.g 0 rfl)
 have hXb:=b.BU hb hU0 pn k;have hD0:=Yb hb pn (k+1);have hD1:=Ya hb pn (k+1);obtain⟨D,hDe⟩:∃D,zR b pn (k+1)=D:=⟨_,rfl⟩
 rw[hDe] at hD0 hD1;have hYs:b.rj U pn (k+1)=max 0 (min (b.rj U pn k+D) b.holds-U):=by rw[<-hDe];exact Rf b U pn (k+1) _
 obtain⟨X,hX⟩:∃X,b.rj U pn k=X:=⟨_,rfl⟩
 rw[hX] at hXb hF hYs;obtain⟨m1,hm1⟩:∃m1,(if ((k:Int)+1)∈pl then b.iU else 0)=m1:=⟨_,rfl⟩
 have hm2:0<=m1/\m1<=99:=by rw[<-hm1];split<;>omega
 have hDm:m1+(if aV ((k:Int)+1) b.pl b.pm=true then b.iO else 0)=D:=by rw[<-hDe,<-DW,Yc b aiA k,hm1]
 obtain⟨Y,hY⟩:∃Y,max 0 (min (X+D) b.holds-U)=Y:=⟨_,rfl⟩
 rw[hY] at hYs;refine dR ?_;refine wF ⟨[],[],[(B3,(b.sl p1 n1 c1 p2 n2 c2 p3 n3 c3))],[]⟩ [(15,aI (decide (((k:Int)+1)<=b.minutes)))] hF hF ⟨fun w1 hS=>⟨_,_,aA K3 (h3.tr (hB.tr hS))⟩,trivial⟩ trivial ?_;intro a W ho hF;replace hB:=hB.tr ho;replace hown:=bP hown ho;refine bW (t:=(decide (((k:Int)+1)<=b.minutes))) (hF.g 0 rfl) (fun Mz=>?_) (fun Mz=>?_)
 .replace hF:=hF.tl;have hlt:k<mt:=by have:=of_decide_eq_true Mz;omega
  refine ej ?_;refine dR ?_;refine jv ?_;refine dR ?_;refine wp_mono (Q:=fun e a W=>e=.normal/\gw 51 a [(8,ag af (X+m1)),(9,ag af ((k:Int)+1)),(7,v7),(6,ae none 0 0),(4,pv B4 0),(3,pv B3 0),(2,ae pq pl.length cq)]/\W.ownsRow WB.heap.size 3 1 v7 k ((b.js U pn k).map (aD af))/\Bw WB W) ?_ ?_
  .refine wF ⟨[],[(2,aI (decide (((k:Int)+1)∈pl)))],[],[]⟩ [(20,aI (decide (((k:Int)+1)∈pl)))] hF hF trivial ⟨fun w1 hS _=>gc (HH ((k:Int)+1) w1 (hw.tr (hB.tr hS))),trivial⟩ ?_;intro a W ho hF;replace hB:=hB.tr ho;replace hown:=bP hown ho;refine bW (t:=(decide (((k:Int)+1)∈pl))) (hF.g 0 rfl) (fun abS=>?_) (fun abS=>?_)
   .replace hF:=hF.tl;have ov:=hF;replace hF:=hF.del 8;simp only[ju,fj,bz,reduceIte] at hF;refine KS ⟨[],[(3,ag af (X+b.iU))],[(B3,(b.sl p1 n1 c1 p2 n2 c2 p3 n3 c3))],[]⟩ [(8,ag af (X+b.iU))] ov hF ⟨fun w1 hS=>⟨_,_,aA K3 (h3.tr (hB.tr hS))⟩,trivial⟩ ⟨fun w1 hS _=>ge (congrArg (aD af) (show IntKind.i64.wrap (X+b.iU)=(X+b.iU) by rw[bg];omega)),trivial⟩ ?_;intro a W ho hF;clear ov;replace hB:=hB.tr ho;replace hown:=bP hown ho;have DX:(X+b.iU)=X+m1:=by rw[<-hm1,if_pos (of_decide_eq_true abS)]
    replace hF:gw 51 a [(8,ag af (X+m1)),(9,ag af ((k:Int)+1)),(7,v7),(6,ae none 0 0),(4,pv B4 0),(3,pv B3 0),(2,ae pq pl.length cq)]:=by rw[<-DX];exact hF
    exact⟨rfl,⟨hF.size,hF.defers,hF.base⟩,hown,hB⟩
   replace hF:=hF.tl;refine ej ?_;have DX:X=X+m1:=by rw[<-hm1,if_neg (of_decide_eq_false abS)];omega
   replace hF:gw 51 a [(9,ag af ((k:Int)+1)),(8,ag af (X+m1)),(7,v7),(6,ae none 0 0),(4,pv B4 0),(3,pv B3 0),(2,ae pq pl.length cq)]:=by rw[<-DX];exact hF
   exact⟨rfl,⟨hF.size,hF.defers,(by obtain⟨b9,b8,b7,b6,b4,b3,b2,-⟩:=hF.base;exact⟨b8,b9,b7,b6,b4,b3,b2,trivial⟩)⟩,hown,hB⟩
  rintro e a W ⟨rfl,hF,hown,hB⟩;refine dR ?_;refine wp_mono (Q:=fun e a W=>e=.normal/\gw 51 a [(8,ag af (X+D)),(9,ag af ((k:Int)+1)),(7,v7),(6,ae none 0 0),(4,pv B4 0),(3,pv B3 0),(2,ae pq pl.length cq)]/\W.ownsRow WB.heap.size 3 1 v7 k ((b.js U pn k).map (aD af))/\Bw WB W) ?_ ?_
  .refine wF ⟨[],[(7,aI (aV ((k:Int)+1) b.pl b.pm))],[(B3,(b.sl p1 n1 c1 p2 n2 c2 p3 n3 c3))],[]⟩ [(32,aI (aV ((k:Int)+1) b.pl b.pm))] hF hF ⟨fun w1 hS=>⟨_,_,aA K3 (h3.tr (hB.tr hS))⟩,trivial⟩ ⟨fun w1 hS _=>gc (fW ((k:Int)+1) b.pl b.pm w1),trivial⟩ ?_;intro a W ho hF;replace hB:=hB.tr ho;replace hown:=bP hown ho;refine bW (t:=(aV ((k:Int)+1) b.pl b.pm)) (hF.g 0 rfl) (fun Dt=>?_) (fun Dt=>?_)
   .replace hF:=hF.tl;have ov:=hF;replace hF:=hF.tl;refine KS ⟨[],[(3,ag af (X+m1+b.iO))],[(B3,(b.sl p1 n1 c1 p2 n2 c2 p3 n3 c3))],[]⟩ [(8,ag af (X+m1+b.iO))] ov hF ⟨fun w1 hS=>⟨_,_,aA K3 (h3.tr (hB.tr hS))⟩,trivial⟩ ⟨fun w1 hS _=>ge (congrArg (aD af) (show IntKind.i64.wrap ((X+m1)+b.iO)=(X+m1+b.iO) by rw[bg];omega)),trivial⟩ ?_;intro a W ho hF;clear ov;replace hB:=hB.tr ho;replace hown:=bP hown ho;have DX:(X+m1+b.iO)=X+D:=by rw[<-hDm,if_pos Dt];omega
    replace hF:gw 51 a [(8,ag af (X+D)),(9,ag af ((k:Int)+1)),(7,v7),(6,ae none 0 0),(4,pv B4 0),(3,pv B3 0),(2,ae pq pl.length cq)]:=by rw[<-DX];exact hF
    exact⟨rfl,⟨hF.size,hF.defers,hF.base⟩,hown,hB⟩
   replace hF:=hF.tl;refine ej ?_;have DX:(X+m1)=X+D:=by rw[<-hDm,if_neg (by rw[Dt];decide)];omega
   replace hF:gw 51 a [(8,ag af (X+D)),(9,ag af ((k:Int)+1)),(7,v7),(6,ae none 0 0),(4,pv B4 0),(3,pv B3 0),(2,ae pq pl.length cq)]:=by rw[<-DX];exact hF
   exact⟨rfl,⟨hF.size,hF.defers,hF.base⟩,hown,hB⟩
  rintro e a W ⟨rfl,hF,hown,hB⟩;have k3:=aA K3 (h3.tr hB);have k4:=aA K4 (h4.tr hB);have hwW:Bw w W:=(hw.tr hB)
  have e8:a.eval (aL 8)=ag af (X+D):=(hF.g 0 rfl)
  refine dR ?_
  refine S2 (late:=[(9,8,ag af (X+D))]) kQ [
  fun v ds w9=>v=ag af (X+D),
   fun v ds w9=>v=aR (b.sl p1 n1 c1 p2 n2 c2 p3 n3 c3),
   fun v ds w9=>v=ag af b.holds,
   fun v ds w9=>v=ag af (min (X+D) b.holds),
   fun v ds w9=>v=aR (b.sl p1 n1 c1 p2 n2 c2 p3 n3 c3),
   fun v ds w9=>v=aR #[ag af lk,ae pb br.length cb],
   fun v ds w9=>v=ag af U,
   fun v ds w9=>v=ag af (min (X+D) b.holds-U),
   fun v ds w9=>v=ag af Y,
   fun v ds w9=>v=ag af Y]
   (fun _ w9=>Bw W w9) [(3,pv B3 0),(4,pv B4 0)] kQ hF.size ?rst (fun _ _ w1 w2 _ h hb=>h.tr hb) ((aB _ _).drew) (by obtain⟨-,-,-,-,b4,b3,-,-⟩:=hF.base;exact⟨b3,b4,trivial⟩) ⟨⟨rfl,e8⟩,trivial⟩ ?reach ?rfin
  case rst=>
   refine⟨Ph.kS,Ph.kS,Ph.kS,Ph.kS,Ph.kS,Ph.kS,Ph.kS,Ph.kS,Ph.kS,Ph.kS,trivial⟩
  case reach=>
   refine⟨?_,?_,?_,?_,?_,?_,?_,?_,?_,?_,trivial⟩
   .intro Lf ev w1 hn nw hS hc hg hf hb hd;obtain⟨b3,b4,Xi,-⟩:=hb;have b8:ev (aL 8)=_:=Xi (hn 9 kQ);exact Ph.tV
   .intro Lf ev w1 hn nw hS hc hg hf hb hd;obtain⟨b3,b4,Xi,-⟩:=hb;have lJ:=aA k3 hS;refine Lag.Yields.qP 28 _ rfl _ b3 28 _ (0,0) _ lJ cM rfl kQ ⟨rfl,cJ (aB _ _)⟩
   .intro Lf ev w1 hn nw hS hc hg hf hb hd;obtain⟨b3,b4,Xi,-⟩:=hb;have d1:(ev (aL 38))=aR (b.sl p1 n1 c1 p2 n2 c2 p3 n3 c3):=hd.1 rfl;refine jO (f:=141) (args:=#[aR (b.sl p1 n1 c1 p2 n2 c2 p3 n3 c3)]) ?_ (Mr b hb _ _ _ w1) ?_
    .go_simp
    rintro e w2 ⟨rfl,hb2⟩;exact⟨_,rfl,rfl,cJ hb2⟩
   .intro Lf ev w1 hn nw hS hc hg hf hb hd;obtain⟨b3,b4,Xi,-⟩:=hb;have d0:(ev (aL 37))=ag af (X+D):=hd.1 rfl;have d2:(ev (aL 39))=ag af b.holds:=hd.2.1 rfl;refine Gw (v:=(ag af (min (X+D) b.holds):aj)) (w':=w1) ?_ ⟨rfl,cJ (aB _ _)⟩;exact MR rfl rfl d0 d2
   .intro Lf ev w1 hn nw hS hc hg hf hb hd;obtain⟨b3,b4,Xi,-⟩:=hb;have lJ:=aA k3 hS;refine Lag.Yields.qP 28 _ rfl _ b3 28 _ (0,0) _ lJ cM rfl kQ ⟨rfl,cJ (aB _ _)⟩
   .intro Lf ev w1 hn nw hS hc hg hf hb hd;obtain⟨b3,b4,Xi,-⟩:=hb;have lJ:=aA k4 hS;refine Lag.Yields.qP 42 _ rfl _ b4 42 _ (0,0) _ lJ Tryz.underlying42 rfl kQ ⟨rfl,cJ (aB _ _)⟩
   .intro Lf ev w1 hn nw hS hc hg hf hb hd;obtain⟨b3,b4,Xi,-⟩:=hb;have d4:(ev (aL 41))=aR (b.sl p1 n1 c1 p2 n2 c2 p3 n3 c3):=hd.1 rfl;have d5:(ev (aL 42))=aR #[ag af lk,ae pb br.length cb]:=hd.2.1 rfl;refine jO (f:=174) (args:=#[aR (b.sl p1 n1 c1 p2 n2 c2 p3 n3 c3),aR #[ag af lk,ae pb br.length cb]]) ?_ (HU w1 (hwW.tr hS)) ?_
    .go_simp
    rintro e w2 ⟨rfl,hb2⟩;exact⟨_,rfl,rfl,cJ hb2⟩
   .intro Lf ev w1 hn nw hS hc hg hf hb hd;obtain⟨b3,b4,Xi,-⟩:=hb;have d3:(ev (aL 40))=ag af (min (X+D) b.holds):=hd.1 rfl;have d6:(ev (aL 43))=ag af U:=hd.2.1 rfl;have hwr:IntKind.i64.wrap (min (X+D) b.holds-U)=min (X+D) b.holds-U:=by rw[bg];omega
    exact Ph.tV
   .intro Lf ev w1 hn nw hS hc hg hf hb hd;obtain⟨b3,b4,Xi,-⟩:=hb;have d7:(ev (aL 44))=ag af (min (X+D) b.holds-U):=hd.1 rfl;refine Gw (v:=(ag af Y:aj)) (w':=w1) ?_ ⟨rfl,cJ (aB _ _)⟩;rw[<-hY];exact MT rfl rfl (hc _) d7
   intro Lf ev w1 hn nw hS hc hg hf hb hd;obtain⟨b3,b4,Xi,-⟩:=hb;have d8:(ev (aL 45))=ag af Y:=hd.1 rfl;exact Ph.tV
  case rfin=>
   intro a W2 hR;have ho:Bw W W2:=hR.s;have e8:a.eval (aL 8)=ag af Y:=hR.val 9;replace hF:=hF.del 8;simp only[ju,fj,bz,reduceIte] at hF;replace hF:=(hR.fr hF kQ).cons (t:=8) e8;clear hR e8 k3 k4 hwW;rename ak=>W;replace hB:=hB.tr ho;replace hown:=bP hown ho;have ov:=hF;replace hF:=hF.del 7;simp only[ju,fj,bz,reduceIte] at hF;refine VX (N:=5) rfl ?_;refine jr 0 2 3 ⟨[],[],[],[]⟩ [(46,v7),(47,ag af Y)] ov hF trivial trivial ?_;intro a W ho hF;replace hB:=hB.tr ho;replace hown:=bP hown ho;refine kq ⟨[],[],[],[]⟩ (some 48) (fun B=>ae (some ⟨B,0,none⟩) 1 1) (#[ag af Y]) 3 hF hF ?_;intro B48 W a G48 ho K48 hF;have amW:=aF (hw.tr hB).size G48;have amZ:=aF (h3.tr hB).size G48;have amY:=aF (h4.tr hB).size G48;have amX:=aF hB.size G48;replace hB:=hB.tr ho;replace hown:=bP hown ho;replace hw:=hw.tr hB;replace h3:=h3.tr hB;replace h4:=h4.tr hB;rename ak=>W48;have h48:=aB W48.heap.size W48;refine Ur ⟨[],[],[],[]⟩ (some 49) (R:=fun v w9=>w9.ownsRow WB.heap.size 3 1 v (k+1) ((b.js U pn k).map (aD af)++[ag af Y])/\W48.grownBy w9 v7.ownBlock) hF hF kQ (Yields.ri (aL 46) (aL 48) 25 kQ WB.heap.size 3 i0 (ag af 0) 1 8 Tryz.underlying25 hi hz0 hz1 hz2 rfl dC v7 _ _ kQ hown ⟨B48,0,none⟩ 1 1 [ag af Y] kQ rfl (fun j u hj=>by match j,hj with|0,hj=>(simp at hj;subst hj;exact aK K48 0 _ rfl)) (fun u hu=>by simp at hu;subst hu;rfl) (by unfold maxLen;omega) oM (hB.tr h48).size fun v' w' h1 h2 _=>⟨h1,h2⟩) ?_;rintro v49 W ⟨hown2,hgr⟩ a hF;replace hB:=(hB.tr h48).grown hgr (hB.tr h48).size fun j hj=>(hown.lt j hj).1;replace hown:=hown2;clear hown2 hgr;refine jU 4 1 0 [(7,v49)] hF ?_;intro a W ho hF;replace hB:=hB.tr ho;replace hown:=bP hown ho;refine aah ?_;have ov:=hF;replace hF:=hF.del 9;simp only[ju,fj,bz,reduceIte] at hF;refine KS ⟨[],[(1,ag af ((k:Int)+1+1))],[],[]⟩ [(9,ag af ((k:Int)+1+1))] ov hF trivial ⟨fun w1 hS _=>ge (congrArg (aD af) (show IntKind.i64.wrap (((k:Int)+1)+1)=((k:Int)+1+1) by rw[bg];omega)),trivial⟩ ?_;intro a W ho hF;clear ov;replace hB:=hB.tr ho;replace hown:=bP hown ho;have hpy:=b.Iu U pn k;rw[hYs] at hpy;refine⟨⟨k+1,v49,oM,by rw[hpy];simpa using hown,⟨hF.size,hF.defers,by rw[hYs];exact(by obtain⟨b9,b7,-,-,-,-,b8,b6,b4,b3,b2,-⟩:=hF.base;exact⟨b9,b8,b7,b6,b4,b3,b2,trivial⟩)⟩,hB⟩,?_⟩;rw[show a.eval (aL 9)=ag af ((k:Int)+1+1) from(hF.g 0 rfl)];simp only[hk9];simp[intOf];omega
 replace hF:=hF.tl;refine wp_exit ?_;obtain rfl:k=mt:=by have:=of_decide_eq_false Mz;omega
 replace hF:=hF.del 6;simp only[ju,fj,bz,reduceIte] at hF;refine fP [(6,v7)] hF ?_;intro a W ho hF;replace hB:=hB.tr ho;replace hown:=bP hown ho;refine wp_ret ?_;refine bj (bZ rfl _ _ _) hF.defers ⟨_,congrArg bA (show a.eval (aL 6)=_ from(hF.g 0 rfl)),tJ hown hw.size,(hw.tr hB)⟩
def Li(b:BB)(U:Int)(p:Nat)(m:Mk):Mk:=⟨m.minute,min m.lo (b.xg (b.rj U p m.minute.toNat)),max m.hi (b.xg (b.rj U p m.minute.toNat))⟩
def xN(b:BB)(U:Int)(p:Nat)(ms:List Mk):List Mk:=ms.map (Li b U p)
def NY(b:BB)(U:Int)(p:Nat)(ms:List Mk):sA b U p (xN b U p ms)=true:=by
 unfold sA xN;rw[aX];intro m hm;obtain⟨q,hq,rfl⟩:=List.mem_map.1 hm
 have h1:∀x l h:Int,aV x (min l x) (max h x)=true:=fun x l h=>by
  unfold aV;simp only[aJ,decide_eq_true_eq];omega
 exact h1 _ _ _
def RF(a:dS)(kr:Nat):List Int->dS
 |[]=>a
 |n::r=>RF (a.put kr n) (kr+1) r
def Ub(lk:Int):∀br:List Int,br.length<=3->RF ⟨lk,0,0,0⟩ 0 br=gG lk br
 |[],_=>rfl
 |[_],_=>rfl
 |[_,_],_=>rfl
 |[_,_,_],_=>rfl
 |_::_::_::_::_,h=>by simp at h
def LO(ok:dS->Bool)(pk:Nat->Nat):∀(r:List Mn) (kr:Nat) (i:Nat) (a:dS),(∀m∈r,m.lo<=m.hi)->ok (RF a kr (eT pk r i))=true->RF a kr (eT pk r i)∈leaves ok r kr a
 |[],kr,i,a,_,h=>by
  simp only[eT,RF] at h ⊢;simp[leaves,h]
 |m::r,kr,i,a,hm,h=>by
  simp only[eT,RF] at h ⊢;simp only[leaves,lg];exact⟨oK m.lo m.hi (pk (1+i)),wY.2 (m6 (hm m sM) _),LO ok pk r (kr+1) (i+1) _ (fun x hx=>hm x (by simp[hx])) h⟩
def Ry{b:BB}(hb:b.Ok){ml:List Mn}(hm:yf ml)(ss:List Int)(ms:List Mk)(pk:Nat->Nat)(h:jA b ss ms (gG (kP b pk) (eT pk ml 0))=true):gG (kP b pk) (eT pk ml 0)∈bf b ml ss ms:=by
 have h3:(eT pk ml 0).length<=3:=by rw[vU];exact hm.len
 unfold bf;rw[lg];refine⟨kP b pk,wY.2 (m6 hb.leak.2.1 _),?_⟩;rw[<-Ub _ _ h3] at h ⊢;exact LO _ pk ml 0 0 _ (fun m hm'=>(hm.mem m hm').2.2.1) h
def F_(b:BB):∀(xs:List Int) (k j:Nat) (hj:j<xs.length),b.xg xs[j]<b.least->ij b xs k<=k+j/\(k:Int)<=ij b xs k
 |[],_,j,hj,_=>by simp at hj
 |n::r,k,j,hj,h=>by
  simp only[ij];split
  .omega
  .rename_i hn;cases j with
   |zero=>exact absurd h hn
   |succ j=>
    have:=F_ b r (k+1) j (by simpa using hj) (by simpa using h);omega
def acO(b:BB)(U:Int)(p i:Nat)(hi:i<b.minutes.toNat)(h:b.xg (b.rj U p (i+1))<b.least):b.bad U p<=(i:Int)+1/\1<=b.bad U p:=by
 unfold BB.bad;have:=F_ b (b.js U p b.minutes.toNat) 0 i (by rw[BB.oV];exact hi) (by simpa [BB.js] using h);omega
structure Zu(b:BB)(p:Nat)(l:List dS)(s:Int × Bool):Prop where
 no:s.2=false->s.1=0/\∀a∈l,b.bad (b.bS+a.used) p=0
 yes:s.2=true->1<=s.1/\(∃a∈l,b.bad (b.bS+a.used) p≠0)/\∀a∈l,b.bad (b.bS+a.used) p≠0->s.1<=b.bad (b.bS+a.used) p
def Np(b:BB)(p:Nat):∀(l pre:List dS) (s:Int × Bool),Zu b p pre s->Zu b p (pre++l) (l.foldl (uJ b p) s)
 |[],pre,s,h=>by simpa using h
 |a::l,pre,s,h=>by
  have h1:Zu b p (pre++[a]) (uJ b p s a):=by
   have hg:=F9 b (b.bS+a.used) p;unfold uJ
   by_cases h0:b.bad (b.bS+a.used) p=0
   .rw[if_pos h0];refine⟨fun e=>⟨(h.no e).1,fun x hx=>?_⟩,fun e=>⟨(h.yes e).1,?_,fun x hx hb=>?_⟩⟩
    .rcases bB.1 hx with hx|hx
     .exact(h.no e).2 x hx
     simp at hx;rw[hx];exact h0
    .obtain⟨x,hx,hb⟩:=(h.yes e).2.1;exact⟨x,by simp[hx],hb⟩
    rcases bB.1 hx with hx|hx
    .exact(h.yes e).2.2 x hx hb
    simp at hx;rw[hx] at hb;exact absurd h0 hb
   rw[if_neg h0];split
   .rename_i hc;refine⟨fun e=>by simp at e,fun _=>⟨sO,⟨a,sM,h0⟩,fun x hx hb=>?_⟩⟩;rcases bB.1 hx with hx|hx
    .rcases hc with hc|hc
     .exact absurd ((h.no hc).2 x hx) hb
     cases e:s.2
     .exact absurd ((h.no e).2 x hx) hb
     have:=(h.yes e).2.2 x hx hb;simp;omega
    simp at hx;rw[hx];simp
   rename_i hc;have e:s.2=true:=by cases e:s.2<;>simp_all
   refine⟨fun e'=>by rw[e] at e';simp at e',fun _=>⟨(h.yes e).1,⟨a,sM,h0⟩,fun x hx hb=>?_⟩⟩;rcases bB.1 hx with hx|hx
   .exact(h.yes e).2.2 x hx hb
   simp at hx;rw[hx];omega
  have:=Np b p l (pre++[a]) _ h1;simpa using this
def Tl(b:BB)(all:List dS)(p:Nat):Zu b p all (lW b all p):=by
 have:=Np b p all [] (0,false) ⟨fun _=>⟨rfl,sM⟩,sM⟩;simpa [lW] using this
def zN(b:BB)(U:Int)(p:Nat):Nat->Bool
 |0=>true
 |k+1=>zN b U p k && !decide (b.xg (b.rj U p (k+1))<b.least)
def LU(b:BB)(U:Int)(p:Nat):∀k,zN b U p k=true↔∀i,i<k->b.least<=b.xg (b.rj U p (i+1))
 |0=>by simp[zN]
 |k+1=>by
  simp only[zN,aJ,LU b U p k,Bool.not_eq_true',decide_eq_false_iff_not];refine⟨fun⟨h1,h2⟩ i hi=>?_,fun h=>⟨fun i hi=>h i oM,?_⟩⟩
  .by_cases e:i=k
   .subst e;omega
   exact h1 i oM
  have:=h k oM;omega
def LG(g:Int)(is:Bool):Bool:=(g==0)||((g==1)==is)
structure akN(b:BB)(U:Int)(p:Nat)(G bad:Int)(f:Bool):Prop where
 f1:f = !(G==1)
 f2:f=decide (bad>0)
 at_:∀i,i<b.minutes.toNat->b.xg (b.rj U p (i+1))<b.least->f=true/\¬(i:Int)+1<bad
 said:LG G (zN b U p b.minutes.toNat)=true
def T7{b:BB}(all:List dS)(p:Nat){a:dS}(ha:a∈all):akN b (b.bS+a.used) p (jG (o6 b all p) all.length) (lW b all p).1 (lW b all p).2:=by
 have hne:all≠[]:=List.ne_nil_of_mem ha;have HB:=Tl b all p;have hk:=JY b hne p
 have hs:b.sure all p = !(lW b all p).2:=by
  unfold BB.sure;cases e:(lW b all p).2
  .rw[Bool.not_false,aX];intro x hx;simp[(HB.no e).2 x hx]
  obtain⟨x,hx,hb⟩:=(HB.yes e).2.1;rw[Bool.not_true,List.all_eq_false];have:=F9 b (b.bS+x.used) p;exact⟨x,hx,sO⟩
 have hok:zN b (b.bS+a.used) p b.minutes.toNat=decide (b.bad (b.bS+a.used) p=0):=by
  rw[Bool.eq_iff_iff,LU,decide_eq_true_eq,<-Za];have:=F9 b (b.bS+a.used) p;omega
 refine⟨?_,?_,fun i hi h=>?_,?_⟩
 .rw[hs] at hk;cases e:(lW b all p).2<;>simp_all
 .cases e:(lW b all p).2
  .have:=(HB.no e).1;simp[this]
  have:=(HB.yes e).1;simp;omega
 .have h1:=acO b _ p i hi h;cases e:(lW b all p).2
  .have:=(HB.no e).2 a ha;omega
  have:=(HB.yes e).2.2 a ha oM;exact⟨rfl,oM⟩
 rw[hok];unfold LG
 have h1:b.sure all p=true->b.bad (b.bS+a.used) p=0:=fun h=>by
  unfold BB.sure at h;have h2:=aX.1 h a ha;have:=F9 b (b.bS+a.used) p;simp at h2;omega
 have h2:o6 b all p=0->b.bad (b.bS+a.used) p≠0:=fun h h3=>by
  unfold o6 at h;have:=List.countP_eq_zero.1 h a ha;simp[h3] at this
 by_cases hg:o6 b all p=0
 .simp[jG,hg,h2 hg]
 by_cases hg2:o6 b all p=all.length
 .have h3:jG (o6 b all p) all.length=1:=by simp[jG,hg2,hne]
  rw[h3];simp[h1 (hk.1 h3)]
 simp[jG,hg,hg2]
def Ox{of:dS->Int}{l:List dS}{x y:Int}{r:List Int}(h:dT of l=x::r)(hy:(x::r).getLast?=some y){a:dS}(ha:a∈l):x<=of a/\of a<=y:=by
 have h1:of a∈x::r:=h▸zP.2 ⟨a,ha,rfl⟩;have h2:=LW of l;rw[h] at h2;constructor
 .rcases List.mem_cons.1 h1 with h3|h3
  .omega
  exact Int.le_of_lt ((List.pairwise_cons.1 h2).1 _ h3)
 obtain⟨i,hi,h4⟩:=List.mem_iff_getElem.1 h1;have hl:(x::r).length-1<(x::r).length:=sM
 have h5:(x::r)[(x::r).length-1]=y:=by
  rw[List.getLast?_eq_getElem?,eQ hl] at hy;exact bp hy
 rw[<-h4,<-h5]
 by_cases e:i=(x::r).length-1
 .subst e;exact Int.le_refl _
 exact Int.le_of_lt (List.pairwise_iff_getElem.1 h2 i _ hi hl oM)
structure Zi(g off n:Nat)(f:Nat->Int)(W:ak):Prop where
 lt:g<W.heap.size
 at_:∀j,j<n->W.cell? ⟨g,off+j,none⟩=some (ag af (f j))
def Zi.same{g off n:Nat}{f:Nat->Int}{W W':ak}(h:Zi g off n f W)(hb:W'.heap[g]?=W.heap[g]?)(hs:W.heap.size<=W'.heap.size):Zi g off n f W':=
 ⟨bw h.lt hs,fun j hj=>(iu (a:=⟨g,off+j,none⟩) hb).trans (h.at_ j hj)⟩
def Zi.below{g off n:Nat}{f:Nat->Int}{W W':ak}(h:Zi g off n f W)(hb:Bw W W'):Zi g off n f W':=h.same (hb.block g h.lt) hb.size
def XU{W:ak}{base n:Nat}{v:aj}{l:List Int}{f:Nat->Int}(h:W.ownsRow base 3 1 v n (l.map (aD af)))(hn:0<n)(hn9:n<=1000)(hl:l.length=n)(hf:∀j,j<n->l[j]?=some (f j)):∃g off c,v=ae (some ⟨g,off,none⟩) n c/\Zi g off n f W/\∃cs,W.heap[g]?=some (au cs 3 (0,0)):=by
 have hr:=Reads.iA h oM (by simp[hl]);rcases h.2 with⟨_,h0⟩|⟨g,cap,cur,rfl,_,h2,_⟩
 .omega
 refine⟨g,0,cap,rfl,⟨(ah.1 h2).1,fun j hj=>?_⟩,_,h2⟩;rcases hr with⟨h0,_,_⟩|⟨g',off,cap',h0,_,_,h4⟩
 .cases h0
 cases h0;exact h4 j _ (by simp[hf j hj])
def Q6(b:BB)(Z6:b.Ok)(p1 p2 p3 pb:Option Addr)(n1 c1 c2 c3 cb:Nat)(ss:List Int)(nQ:fM b ss)(ms:List Mk)(hmk:lI b ms)(lk:Int)(hlk:0<=lk/\lk<=99)(br:List Int)(hbl:br.length<=3)(qu:∀x∈br,0<=x/\x<=99)(w:ak)(hv:Reads w (ae pb br.length cb) br.length (br.map (aD af)))(hu:Reads w (ae p2 ss.length c2) ss.length (ss.map (aD af)))(hk3:Reads w (ae p3 ms.length c3) ms.length (dV ms)):bm aq 84 #[aR (b.sl p1 n1 c1 p2 ss.length c2 p3 ms.length c3),aR #[ag af lk,ae pb br.length cb]] w fun e w'=>∃v,e=.returned (aR (b.cells (ae p1 n1 c1) (ae p2 ss.length c2) v))/\w'.ownsRow w.heap.size 81 3 v ms.length (dV (xN b (b.bS+lk+br.sum) (bJ ss) ms))/\Bw w w':=by
 obtain⟨i1,AY,Ml,hy1,hy2⟩:=info_parts Fa;have U1:=A7 br qu;have hl0:=Z6.bS;have xu:=Z6.minutes;have ao8:=hmk.len;have HPO:∀w9,Bw w w9->_:=fun w9 h9=>Oi b Z6 p1 p2 p3 pb p2 n1 c1 ss.length c2 ms.length c3 cb c2 lk hlk br hbl qu ss nQ w9 (hv.below h9) (hu.below h9);obtain⟨U,hU⟩:∃U,b.bS+lk+br.sum=U:=⟨_,rfl⟩
 have hU0:0<=U:=oM;have hU1:U<=495:=oM;obtain⟨mt,Xh⟩:∃mt,b.minutes.toNat=mt:=⟨_,rfl⟩
 have hmi:b.minutes=(mt:Int):=oM;obtain⟨pn,DW⟩:∃pn,bJ ss=pn:=⟨_,rfl⟩
 rw[hU,DW];rw[hU,Xh,DW] at HPO;refine mP Tryz.func84 rfl rfl [(1,aR #[ag af lk,ae pb br.length cb]),(0,aR (b.sl p1 n1 c1 p2 ss.length c2 p3 ms.length c3))] ⟨jg rfl,jg rfl,trivial⟩ fun a W hF hw=>?_;refine lT (N:=3) rfl ?_;refine kq ⟨[],[],[],[]⟩ (some 2) (fun B=>pv B 0) (b.sl p1 n1 c1 p2 ss.length c2 p3 ms.length c3) 28 hF hF ?_;intro B2 W a G2 ho K2 hF;have acn:=aF hw.size G2;replace hw:=hw.tr ho;rename ak=>W2;have h2:=aB W2.heap.size W2;refine kq ⟨[],[],[],[]⟩ (some 3) (fun B=>pv B 0) (#[ag af lk,ae pb br.length cb]) 42 hF hF ?_;intro B3 W a G3 ho K3 hF;have YS:=aF (hw.tr h2).size G3;have afU:=aF h2.size G3;replace h2:=h2.tr ho;replace hw:=hw.tr h2;rename ak=>W3;have h3:=aB W3.heap.size W3;refine kq ⟨[],[],[],[]⟩ (some 4) (fun B=>pv B 0) (AZ) 28 hF hF ?_;intro B4 W a G4 ho K4 hF;have Vz:=aF (hw.tr h3).size G4;have aj6:=aF (h2.tr h3).size G4;have afT:=aF h3.size G4;replace h3:=h3.tr ho;replace hw:=hw.tr h3;replace h2:=h2.tr h3;rename ak=>W4;have h4:=aB W4.heap.size W4;refine mC ?_;refine lT (N:=3) rfl ?_;refine jr 0 1 2 ⟨[],[],[(B2,(b.sl p1 n1 c1 p2 ss.length c2 p3 ms.length c3))],[]⟩ [(10,aR (b.sl p1 n1 c1 p2 ss.length c2 p3 ms.length c3))] hF hF ⟨fun w1 hS=>⟨_,_,aA K2 (h2.tr (h4.tr hS))⟩,trivial⟩ trivial ?_;intro a W ho hF;replace h4:=h4.tr ho;refine kq ⟨[],[],[],[]⟩ (some 5) (fun B=>pv B 0) (AZ) 28 hF hF ?_;intro B5 W a G5 ho K5 hF;have acj:=aF (hw.tr h4).size G5;have acm:=aF (h2.tr h4).size G5;have afR:=aF (h3.tr h4).size G5;have ack:=aF h4.size G5;replace h4:=h4.tr ho;replace hw:=hw.tr h4;replace h2:=h2.tr h4;replace h3:=h3.tr h4;rename ak=>W5;have h5:=aB W5.heap.size W5;refine rL ⟨[],[],[],[]⟩ (AZ) (b.sl p1 n1 c1 p2 ss.length c2 p3 ms.length c3) (aS 15) hF hF (aA K5 h5) ?_;intro W a up K5 hF;replace hw:=up.below (hw.tr h5) acj;replace h2:=up.below (h2.tr h5) acm;replace h3:=up.below (h3.tr h5) afR;replace h4:=up.below (h4.tr h5) ack;clear up;rename ak=>vg;have dp:=aB vg.heap.size vg;refine mC ?_;refine lT (N:=2) rfl ?_;refine jU 0 1 1 [(11,pv B5 14)] hF ?_;intro a W ho hF;replace dp:=dp.tr ho;refine rL ⟨[],[],[],[]⟩ (b.sl p1 n1 c1 p2 ss.length c2 p3 ms.length c3) (b.sl p1 n1 c1 p2 ss.length c2 none 0 0) [0] hF hF (aA K5 dp) ?_;intro W a up K5 hF;replace hw:=up.below (hw.tr dp) acj;replace h2:=up.below (h2.tr dp) acm;replace h3:=up.below (h3.tr dp) afR;replace h4:=up.below (h4.tr dp) ack;clear up;rename ak=>rp;have bU:=aB rp.heap.size rp;refine mC ?_;refine lT (N:=6) rfl ?_;refine jr 0 4 2 ⟨[],[],[(B2,(b.sl p1 n1 c1 p2 ss.length c2 p3 ms.length c3)),(B3,#[ag af lk,ae pb br.length cb])],[(1,1)]⟩ [(12,aR (b.sl p1 n1 c1 p2 ss.length c2 p3 ms.length c3)),(13,aR #[ag af lk,ae pb br.length cb]),(15,ae p2 ss.length c2)] hF hF ⟨fun w1 hS=>⟨_,_,aA K2 (h2.tr (bU.tr hS))⟩,fun w1 hS=>⟨_,_,aA K3 (h3.tr (bU.tr hS))⟩,trivial⟩ trivial ?_;intro a W ho hF;replace bU:=bU.tr ho;refine acJ ⟨[],[],[],[]⟩ (some 16) (f:=135) (args:=#[aR (b.sl p1 n1 c1 p2 ss.length c2 p3 ms.length c3),aR #[ag af lk,ae pb br.length cb],ae p2 ss.length c2]) hF hF (HPO _ (hw.tr bU)) ?_;rintro _ W ⟨v16,rfl,hol,hb⟩;refine⟨_,rfl,fun a hF=>?_⟩;have ho:=hb;replace bU:=bU.tr ho;replace hw:=hw.tr bU;replace h2:=h2.tr bU;replace h3:=h3.tr bU;replace h4:=h4.tr bU;rename ak=>W16;have YL:=aB W16.heap.size W16;refine jU 5 1 0 [(6,v16)] hF ?_;intro a W ho hF;replace YL:=YL.tr ho;refine mC ?_;refine dR ?_;refine fP [(7,ag af 0)] hF ?_;intro a W ho hF;replace YL:=YL.tr ho;refine jv ?_;replace hF:=((((((((hF.del 16).del 15).del 13).del 12).del 11).del 10).del 3).del 1).del 0;simp only[ju,fj,bz,reduceIte] at hF;have n25:B2≠B5:=by have h1:=(ah.1 K2).1;have h2:=acm;omega
 have n45:B4≠B5:=by have h1:=(ah.1 K4).1;have h2:=ack;omega
 have hw5:w.heap.size<=B5:=acj;have hw4:w.heap.size<=B4:=Vz;replace K2:=aA K2 (h2.tr YL);replace K4:=aA K4 (h4.tr YL);replace K5:=aA K5 (bU.tr YL);replace hw:=(hw.tr YL)
 have aeS:=bP hol YL;obtain⟨gL,oL,cL,rfl,hcl,ux⟩:∃g off c,v16=ae (some ⟨g,off,none⟩) mt c/\Zi g off mt (fun j=>b.rj U pn (j+1)) W/\∃cs,W.heap[g]?=some (au cs 3 (0,0)):=XU aeS oM oM (b.oV _ _ _) fun j hj=>by simp[BB.js,hj]
 have aja:gL≠B5:=by rintro rfl;obtain⟨cs,h⟩:=ux;rw[K5] at h;cases h
 obtain⟨E,hE⟩:∃E,E=W.heap.size:=⟨_,rfl⟩
 have gE:B2<E/\B4<E/\B5<E/\gL<E/\w.heap.size<=E:=⟨by rw[hE];exact(ah.1 K2).1,by rw[hE];exact(ah.1 K4).1,by rw[hE];exact(ah.1 K5).1,by rw[hE];exact hcl.lt,by rw[hE];exact hw.size⟩
 refine wp_loop (fun a W=>∃(k:Nat) (mv:aj),k<=ms.length/\gw 56 a [(7,ag af (k:Int)),(6,ae (some ⟨gL,oL,none⟩) mt cL),(5,pv B5 0),(4,pv B4 0),(2,pv B2 0)]/\W.heap[B2]?=some (au (b.sl p1 n1 c1 p2 ss.length c2 p3 ms.length c3) 28 (0,0))/\W.heap[B4]?=some (au AZ 28 (0,0))/\W.heap[B5]?=some (au (b.cells (ae p1 n1 c1) (ae p2 ss.length c2) mv) 28 (0,0))/\W.ownsRow E 81 3 mv k (dV (xN b U pn (ms.take k)))/\Zi gL oL mt (fun j=>b.rj U pn (j+1)) W/\Bw w W/\E<=W.heap.size) (fun a _=>ms.length-(intOf (a.eval (aL 7))).toNat) ⟨0,ae none 0 0,gD _,⟨hF.size,hF.defers,hF.base⟩,K2,K4,K5,dG _ _ _ _,hcl,hw,oM⟩ ?_;clear hF K2 K4 K5 hw hcl ux aeS hol hE
 try clear a
 try clear W
 rintro a W ⟨k,mv,hk,hF,K2,K4,K5,hown,hcl,hw,uW⟩;have hk7:a.eval (aL 7)=ag af (k:Int):=(hF.g 0 rfl)
 obtain⟨pz,cz,rfl⟩:=dw hown;refine dR ?_;refine wF ⟨[],[],[(B2,(b.sl p1 n1 c1 p2 ss.length c2 p3 ms.length c3))],[]⟩ [(21,aI (decide ((k:Int)<(ms.length:Int))))] hF hF ⟨fun w1 hS=>⟨_,_,aA K2 hS⟩,trivial⟩ trivial ?_;intro a W ho hF;replace hw:=hw.tr ho;replace K2:=aA K2 ho;replace K4:=aA K4 ho;replace K5:=aA K5 ho;replace hown:=bP hown ho;replace hcl:=hcl.below ho;replace uW:=aF uW ho.size;refine bW (t:=(decide ((k:Int)<(ms.length:Int)))) (hF.g 0 rfl) (fun abR=>?_) (fun abR=>?_)
 .replace hF:=hF.tl;have hlt:k<ms.length:=by simpa using abR
  obtain⟨m,hme⟩:∃m,ms[k]=m:=⟨_,rfl⟩
  have DX:=hmk.mem m (hme▸bQ hlt);obtain⟨mi,hmm⟩:∃mi:Nat,m.minute=(mi:Int)+1:=⟨(m.minute-1).toNat,oM⟩
  obtain⟨X,hX⟩:∃X,b.rj U pn (mi+1)=X:=⟨_,rfl⟩
  have hXb:=b.BU Z6 hU0 pn (mi+1);rw[hX] at hXb;obtain⟨y,hy⟩:∃y,b.xg X=y:=⟨_,rfl⟩
  have htm:Li b U pn m=⟨m.minute,min m.lo y,max m.hi y⟩:=by unfold Li;rw[show m.minute.toNat=mi+1 by omega,hX,hy]
  have ME:=hF;have K5z:=K5
  obtain⟨g,off,rfl,hcell⟩:∃g off,p3=some ⟨g,off,none⟩/\∀w9,Bw w w9->w9.cell? ⟨g,off+k*3,none⟩=some (ag af m.minute)/\w9.cell? ⟨g,off+k*3+1,none⟩=some (ag af m.lo)/\w9.cell? ⟨g,off+k*3+2,none⟩=some (ag af m.hi):=by
   rcases hk3 with⟨_,h0,_⟩|⟨g,off,cap,h0,_,hg,h4⟩
   .omega
   cases h0;refine⟨g,off,rfl,fun w9 h9=>⟨?_,?_,?_⟩⟩
   .have:=(h9.cell (p:=⟨g,off+(3*k+0),none⟩) hg).trans (h4 (3*k+0) (ag af m.minute) (by rw[nu ms k 0 hlt oM,hme];rfl));rwa [show off+(3*k+0)=off+k*3 by omega] at this
   .have:=(h9.cell (p:=⟨g,off+(3*k+1),none⟩) hg).trans (h4 (3*k+1) (ag af m.lo) (by rw[nu ms k 1 hlt oM,hme];rfl));rwa [show off+(3*k+1)=off+k*3+1 by omega] at this
   have:=(h9.cell (p:=⟨g,off+(3*k+2),none⟩) hg).trans (h4 (3*k+2) (ag af m.hi) (by rw[nu ms k 2 hlt oM,hme];rfl));rwa [show off+(3*k+2)=off+k*3+2 by omega] at this
  replace hF:=ME;replace K5:=K5z;clear ME K5z;refine ej ?_;refine dR ?_;refine jv ?_;refine lT (N:=7) rfl ?_;refine jr 0 5 2 ⟨[],[(3,eX (some ⟨g,off+k*3,none⟩)),(4,aR #[ag af m.minute,ag af m.lo,ag af m.hi])],[(B2,(b.sl p1 n1 c1 p2 ss.length c2 (some ⟨g,off,none⟩) ms.length c3))],[]⟩ [(28,aR #[ag af m.minute,ag af m.lo,ag af m.hi])] hF hF ⟨fun w1 hS=>⟨_,_,aA K2 hS⟩,trivial⟩ ⟨fun w1 hS _=>gs (fp 26 (ae (some ⟨g,off,none⟩) ms.length c3) (ag af (k:Int))) (by have AY:¬(ms.length<=k):=(by omega);go_simp),fun w1 hS _=>gs (Instr.loadAt 81 (eX (some ⟨g,off+k*3,none⟩))) (by have z1:=(hcell w1 (hw.tr hS)).1;have z2:=(hcell w1 (hw.tr hS)).2.1;have z3:=(hcell w1 (hw.tr hS)).2.2;go_simp),trivial⟩ ?_;intro a W ho hF;replace hw:=hw.tr ho;replace K2:=aA K2 ho;replace K4:=aA K4 ho;replace K5:=aA K5 ho;replace hown:=bP hown ho;replace hcl:=hcl.below ho;replace uW:=aF uW ho.size;refine kq ⟨[],[],[],[]⟩ (some 8) (fun B=>pv B 0) (#[ag af 0,ag af 0,ag af 0]) 81 hF hF ?_;intro B8 W8 a G8 ho K8 hF;have hn8:∀q,(eE pz k cz).ownBlock=some q->q≠B8:=fun q hq e=>by have:=(hown.lt q hq).2;omega
  have hE8:E<=B8:=aF uW G8;replace hw:=hw.tr ho;replace K2:=aA K2 ho;replace K4:=aA K4 ho;replace K5:=aA K5 ho;replace hown:=bP hown ho;replace hcl:=hcl.below ho;replace uW:=aF uW ho.size;clear ho G8;rename ak=>W;have K0:=K8;refine rL ⟨[],[],[],[]⟩ (#[ag af 0,ag af 0,ag af 0]) (#[ag af m.minute,ag af m.lo,ag af m.hi]) (aS 3) hF hF K8 ?_;intro W a up K8 hF;replace K2:=(up.block _ oM).trans K2;replace K4:=(up.block _ oM).trans K4;replace K5:=(up.block _ oM).trans K5;replace hown:=eN hown fun g9 hg9=>up.block g9 (hn8 g9 hg9);replace hcl:=hcl.same (up.block _ oM) (vE up.size.symm);replace hw:=up.below hw oM;replace uW:=aF uW (vE up.size.symm);clear up K0;refine mC ?_;have afn:∀w9,Bw W w9->w9.cell? ⟨gL,oL+mi,none⟩=some (ag af X):=fun w9 h9=>by have h1:=(hcl.below h9).at_ mi oM;rw[h1];show some (aD af (b.rj U pn (mi+1)))=_;rw[hX]
  have h8:=aB W.heap.size W;refine I1 kQ ⟨[],[(4,ag af (mi:Int)),(5,pv gL (oL+mi)),(6,ag af X),(7,ag af (b.xg X))],[(B2,(b.sl p1 n1 c1 p2 ss.length c2 (some ⟨g,off,none⟩) ms.length c3)),(B8,#[ag af m.minute,ag af m.lo,ag af m.hi])],[(3,1)]⟩ [(9,ag af (b.xg X))] hF ⟨fun w1 hS=>⟨_,_,aA K2 hS⟩,fun w1 hS=>⟨_,_,aA K8 hS⟩,trivial⟩ ⟨fun w1 hS _=>ge (congrArg (aD af) (show IntKind.i64.wrap (m.minute-1)=(mi:Int) by rw[bg];omega)),fun w1 hS _=>gs (fp 25 (ae (some ⟨gL,oL,none⟩) mt cL) (ag af (mi:Int))) (by have AY:¬(mt<=mi):=(by omega);go_simp),fun w1 hS _=>gl (afn w1 (h8.tr hS)),fun w1 hS _=>gc (args:=#[aR (b.sl p1 n1 c1 p2 ss.length c2 (some ⟨g,off,none⟩) ms.length c3),ag af X]) (S1 b Z6 _ _ _ X oM w1),trivial⟩ ?_;intro a W ho hF;replace hw:=hw.tr ho;replace K2:=aA K2 ho;replace K4:=aA K4 ho;replace K5:=aA K5 ho;replace hown:=bP hown ho;replace hcl:=hcl.below ho;replace uW:=aF uW ho.size;replace K8:=aA K8 ho;clear afn h8;rw[hy] at hF;refine lT (N:=13) rfl ?_;refine jr 0 12 1 ⟨[],[(4,ag af (min m.lo y)),(9,ag af (max m.hi y)),(10,aR #[ag af (min m.lo y),ag af (max m.hi y)])],[(B8,#[ag af m.minute,ag af m.lo,ag af m.hi])],[]⟩ [(47,aR #[ag af (min m.lo y),ag af (max m.hi y)]),(48,pv B8 1)] hF hF ⟨fun w1 hS=>⟨_,_,aA K8 hS⟩,trivial⟩ ⟨fun w1 hS _=>gs (Ci #[3,3] 3 #[ag af m.lo,ag af y]) (EX _ _ w1),fun w1 hS _=>gs (Cj #[3,3] 3 #[ag af m.hi,ag af y]) (EZ _ _ w1),fun w1 hS _=>gc (A6 (min m.lo y) (max m.hi y) w1),trivial⟩ ?_;intro a W ho hF;replace hw:=hw.tr ho;replace K2:=aA K2 ho;replace K4:=aA K4 ho;replace K5:=aA K5 ho;replace hown:=bP hown ho;replace hcl:=hcl.below ho;replace uW:=aF uW ho.size;replace K8:=aA K8 ho;have K0:=K8;refine rL ⟨[],[],[],[]⟩ (#[ag af m.minute,ag af m.lo,ag af m.hi]) (#[ag af m.minute,ag af (min m.lo y),ag af (max m.hi y)]) (aS 2) hF hF K8 ?_;intro W a up K8 hF;replace K2:=(up.block _ oM).trans K2;replace K4:=(up.block _ oM).trans K4;replace K5:=(up.block _ oM).trans K5;replace hown:=eN hown fun g9 hg9=>up.block g9 (hn8 g9 hg9);replace hcl:=hcl.same (up.block _ oM) (vE up.size.symm);replace hw:=up.below hw oM;replace uW:=aF uW (vE up.size.symm);clear up K0;refine mC ?_;refine VX (N:=7) rfl ?_;refine jr 0 3 4 ⟨[],[],[(B5,(b.sl p1 n1 c1 p2 ss.length c2 pz k cz)),(B8,#[ag af m.minute,ag af (min m.lo y),ag af (max m.hi y)])],[(2,1)]⟩ [(50,ae pz k cz),(51,aR #[ag af m.minute,ag af (min m.lo y),ag af (max m.hi y)])] hF hF ⟨fun w1 hS=>⟨_,_,aA K5 hS⟩,fun w1 hS=>⟨_,_,aA K8 hS⟩,trivial⟩ trivial ?_;intro a W ho hF;replace hw:=hw.tr ho;replace K2:=aA K2 ho;replace K4:=aA K4 ho;replace K5:=aA K5 ho;replace hown:=bP hown ho;replace hcl:=hcl.below ho;replace uW:=aF uW ho.size;replace K8:=aA K8 ho;refine kq ⟨[],[],[],[]⟩ (some 52) (fun B=>ae (some ⟨B,0,none⟩) 1 1) #[ag af m.minute,ag af (min m.lo y),ag af (max m.hi y)] 81 hF hF ?_;intro B52 W52 a G52 ho K52 hF;have aiM:some B52≠(eE pz k cz).ownBlock:=fun e=>by have:=(hown.lt B52 e.symm).2;omega
  replace hw:=hw.tr ho;replace K2:=aA K2 ho;replace K4:=aA K4 ho;replace K5:=aA K5 ho;replace hown:=bP hown ho;replace hcl:=hcl.below ho;replace uW:=aF uW ho.size;replace K8:=aA K8 ho;clear ho G52 K8;refine Ur ⟨[],[],[],[]⟩ (some 53) (R:=fun v w9=>w9.ownsRow E 81 3 v (k+1) ((dV (xN b U pn (ms.take k)))++(#[ag af m.minute,ag af (min m.lo y),ag af (max m.hi y)]:Array aj).toList)/\W52.grownBy w9 (eE pz k cz).ownBlock) hF hF kQ (Yields.ri (aL 50) (aL 52) 26 kQ E 81 i1 (aR #[ag af 0,ag af 0,ag af 0]) 3 24 Tryz.underlying26 AY Ml hy1 hy2 rfl dC (ae pz k cz) _ _ kQ hown ⟨B52,0,none⟩ 1 1 (#[ag af m.minute,ag af (min m.lo y),ag af (max m.hi y)]:Array aj).toList kQ rfl (fun j u hj=>by have h5:=aK K52 j u (by simpa using hj);have e:(⟨B52,0,none⟩:Addr).add j=⟨B52,j,none⟩:=(by cases j<;>simp[Addr.add]);rw[e];exact h5) (by intro u hu;simp at hu;rcases hu with rfl|rfl|rfl<;>rfl) (by unfold maxLen;omega) oM uW fun v' w' h1 h2 _=>⟨h1,h2⟩) ?_;rintro v53 W ⟨hown2,hgr⟩ a hF;have hmv:∀q,(eE pz k cz).ownBlock=some q->E<=q:=fun q hq=>(hown.lt q hq).1;have hne:∀q,q<E->some q≠(eE pz k cz).ownBlock:=fun q hq e=>by have:=hmv q e.symm;omega
  have lt:∀ {B:Nat} {o:Obj},W52.heap[B]?=some o->B<W52.heap.size:=fun e=>(ah.1 e).1;replace K2:=(hgr.block _ (lt K2) (hne _ gE.1)).trans K2;replace K4:=(hgr.block _ (lt K4) (hne _ gE.2.1)).trans K4;replace K5:=(hgr.block _ (lt K5) (hne _ gE.2.2.1)).trans K5;replace hcl:=hcl.same (hgr.block _ hcl.lt (hne _ gE.2.2.2.1)) hgr.size;replace hw:=hw.grown hgr hw.size fun q hq=>aF gE.2.2.2.2 (hmv q hq);replace uW:=aF uW hgr.size
  replace hown:W.ownsRow E 81 3 v53 (k+1) (dV (xN b U pn (ms.take (k+1)))):=by
   rw[bO hlt,hme];unfold xN;rw[List.map_append,show List.map (Li b U pn) [m]=[Li b U pn m] from rfl,Iq,htm];exact hown2
  clear hown2 hgr hmv hne lt aiM K52;obtain⟨p53,c53,rfl⟩:=dw hown;refine jU 5 1 1 [(54,pv B5 14)] hF ?_;intro a W ho hF;replace hw:=hw.tr ho;replace K2:=aA K2 ho;replace K4:=aA K4 ho;replace K5:=aA K5 ho;replace hown:=bP hown ho;replace hcl:=hcl.below ho;replace uW:=aF uW ho.size;have K0:=K5;refine rL ⟨[],[],[],[]⟩ (b.sl p1 n1 c1 p2 ss.length c2 pz k cz) (b.sl p1 n1 c1 p2 ss.length c2 p53 (k+1) c53) [0] hF hF K5 ?_;intro W a up K5 hF;replace K2:=(up.block _ n25).trans K2;replace K4:=(up.block _ n45).trans K4;replace hown:=eN hown fun g9 hg9=>up.block g9 (fun e=>ko hown K0 dC (by rw[<-e];exact hg9.symm));replace hcl:=hcl.same (up.block _ aja) (vE up.size.symm);replace hw:=up.below hw hw5;replace uW:=aF uW (vE up.size.symm);clear up K0;refine aah ?_;have ov:=hF;replace hF:=hF.del 7;simp only[ju,fj,bz,reduceIte] at hF;refine KS ⟨[],[(1,ag af ((k:Int)+1))],[],[]⟩ [(7,ag af ((k:Int)+1))] ov hF trivial ⟨fun w1 hS _=>ge (congrArg (aD af) (show IntKind.i64.wrap ((k:Int)+1)=((k:Int)+1) by rw[bg];omega)),trivial⟩ ?_;intro a W ho hF;clear ov;replace hw:=hw.tr ho;replace K2:=aA K2 ho;replace K4:=aA K4 ho;replace K5:=aA K5 ho;replace hown:=bP hown ho;replace hcl:=hcl.below ho;replace uW:=aF uW ho.size;refine⟨⟨k+1,_,oM,⟨hF.size,hF.defers,(by obtain⟨b7,-,-,-,-,-,-,-,-,-,-,b6,b5,b4,b2,-⟩:=hF.base;exact⟨b7,b6,b5,b4,b2,trivial⟩)⟩,K2,K4,K5,hown,hcl,hw,uW⟩,?_⟩;rw[show a.eval (aL 7)=ag af ((k:Int)+1) from(hF.g 0 rfl)];simp only[hk7];simp[intOf];omega
 replace hF:=hF.tl;refine wp_exit ?_;obtain rfl:k=ms.length:=by simp at abR;omega
 refine lT (N:=2) rfl ?_;refine jr 0 1 1 ⟨[],[],[(B5,(b.sl p1 n1 c1 p2 ss.length c2 pz ms.length cz))],[]⟩ [(55,aR (b.sl p1 n1 c1 p2 ss.length c2 pz ms.length cz))] hF hF ⟨fun w1 hS=>⟨_,_,aA K5 hS⟩,trivial⟩ trivial ?_;intro a W ho hF;replace hw:=hw.tr ho;replace K2:=aA K2 ho;replace K4:=aA K4 ho;replace K5:=aA K5 ho;replace hown:=bP hown ho;replace hcl:=hcl.below ho;replace uW:=aF uW ho.size;have K0:=K4;refine rL ⟨[],[],[],[]⟩ (AZ) (b.sl p1 n1 c1 p2 ss.length c2 pz ms.length cz) (aS 15) hF hF K4 ?_;intro W a up K4 hF;replace hown:=eN hown fun g9 hg9=>up.block g9 (fun e=>ko hown K0 dC (by rw[<-e];exact hg9.symm));replace hw:=up.below hw hw4;clear up K0;refine mC ?_;refine wp_ret ?_;refine bj (results_cell_row rfl _ _ B4 28 _ (0,0) _ (hF.g 4 rfl) (aA K4 (aB _ _)) cM rfl kQ) hF.defers ⟨_,rfl,?_,hw⟩;rw[Hz] at hown;exact tJ hown gE.2.2.2.2
def Yf(a:dS)(w:ak):bm aq 125 #[aR a.cells] w (Rt w (ag af a.leak)):=by
 go_enter Tryz.func125,Tryz.ntmps125
 go_wp2
 go_ret
 exact⟨rfl,dx⟩
def T4(g:Int)(is:Bool)(w:ak):bm aq 85 #[ag af g,aI is] w (Rt w (aI (LG g is))):=by
 go_enter Tryz.func85,Tryz.ntmps85
 go_wp2
 all_goals
  go_ret
  refine⟨?_,aB _ _⟩;unfold LG;simp_all
def Ws(b:BB)(bq aM aC:aj)(ml:List Mn)(ss:List Int)(ms:List Mk)(w:ak)(hL:Laid w)(hB:cQ b bq aM aC ml ss ms w)(hne:bf b ml ss ms≠[]) :
  bm aq 56 #[aR (b.cells bq aM aC)] w fun e w'=>∃v,e=.returned (cH #[v,ag af 0])/\Reads w' v (dT (fun a=>a.leak) (bf b ml ss ms)).length ((dT (fun a=>a.leak) (bf b ml ss ms)).map (aD af))/\Bw w w':=by
 have hlen:=iR ss ms hB.ok hB.gS;have jX:0<(bf b ml ss ms).length:=List.length_pos_iff.2 hne;have KQ:=hB.gS.len;obtain⟨pm,cm,rfl,_⟩:=aT hB.rm;obtain⟨pn,cn,rfl,_⟩:=aT hB.rs;obtain⟨pk,ck,rfl,_⟩:=aT hB.rk;have b0:Bw w (w.alloc (au (b.sl pm ml.length cm pn ss.length cn pk ms.length ck) 28)):=dx;have hop:=uv b (ae pm ml.length cm) (ae pn ss.length cn) (ae pk ms.length ck) ml ss ms _ (hL.below b0) (hB.below b0) hne (fun W hb=>vX b _ _ _ W);have HO:=ai hop;have Jb:=ai b0;clear hop hL hB b0;generalize bf b ml ss ms=all at *;generalize hM:ml.length=lm at *;generalize ss.length=ln at *;generalize ms.length=lk at *;clear hM
 go_enter Tryz.func56,Tryz.ntmps56
 go_wp2_with (first
  |(go_at_call 103;refine HO.out.mono ?_;clear HO;rintro e w1 ⟨v,rfl,jc,hb1⟩
    obtain⟨gv,cv,rfl⟩:∃gv cv,v=ae (some ⟨gv,0,none⟩) all.length cv:=by
     rcases jc.1.2 with⟨_,h0⟩|⟨g,cap,cur,rfl,_⟩
     .omega
     exact⟨g,cap,rfl⟩
    have wO:=ai (Jb.out.trans (hb1.mono sM));have Tp:Hid (Reads (w1.alloc (au (b.open (ae pm lm cm) (ae pn ln cn) (ae pk lk ck) (ae (some ⟨gv,0,none⟩) all.length cv)) 122)) (ae (some ⟨gv,0,none⟩) all.length cv) all.length (rowOf all)):=ai ((jc.reads oM).below dx);have HNu:=ai (Oy b (ae pm lm cm) (ae pn ln cn) (ae pk lk ck) all hne oM (fun a=>a.leak) _ _ Tp.out (fun a _ W hb=>Yf a W))
    clear jc hb1)
  |(go_at_call 124;refine HNu.out.mono ?_;rintro e w2 ⟨gn,cgn,rfl,ho2,hb2⟩;have HO2:=ai ho2;have nS:=ai hb2;clear ho2 hb2))
 go_ret2;have hb3:=wO.out.alloc wO.out.size (au (b.open (ae pm lm cm) (ae pn ln cn) (ae pk lk ck) (ae (some ⟨gv,0,none⟩) all.length cv)) 122)
 have hnl:(dT (fun a=>a.leak) all).length<=1000:=by
  have h1:=Lib.compact_length_le (sorted (all.map fun a=>a.leak));have h2:(sorted (all.map fun a=>a.leak)).length=all.length:=(List.length_mergeSort _).trans (List.length_map _);unfold dT;omega
 exact⟨_,rfl,Reads.iA HO2.out oM sM,hb3.trans (nS.out.mono hb3.size)⟩
structure OnS(k:Nat)(bk zb:Array aj)(o:aj->Array aj)(w0:ak)(mv:aj)(n:Nat)(rows:List aj)(A C:Bool)(w:ak):Prop where
 one:w.heap[k]?=some (au bk 28 (0,0))
 two:w.heap[k+1]?=some (au zb 28 (0,0))
 three:C=false->w.heap[k+2]?=some (au (o mv) 28 (0,0))
 own:A=false->w.ownsRow (k+3) 81 3 mv n rows
 below:Below k w0 w
 size:k+3<=w.heap.size
section
variable{k n:Nat}{bk zb:Array aj}{o:aj->Array aj}{w0 w1 w2:ak}{mv:aj}{rows:List aj}{A A' C C':Bool}
end
def sumTo(b:BB)(ml:List Mn)(ss:List Int)(ms:List Mk):Nat->Nat
 |0=>0
 |j+1=>sumTo b ml ss ms j+(bf (b.lk (b.ll+j) (b.ll+j)) ml ss ms).length
def CS(ok:dS->Bool):∀(r:List Mn) (k:Nat) (a c:dS),c∈leaves ok r k a->c.leak=a.leak
 |[],k,a,c,h=>by
  simp only[leaves] at h;split at h
  .simp at h;rw[h]
  simp at h
 |m::r,k,a,c,h=>by
  simp only[leaves,lg] at h;obtain⟨n,_,h2⟩:=h;rw[CS ok r (k+1) _ c h2,UL]
def S9{b:BB}{ml:List Mn}{ss:List Int}{ms:List Mk}{a:dS}(ha:a∈bf b ml ss ms):b.ll<=a.leak/\a.leak<=b.lm:=by
 unfold bf at ha;obtain⟨n,h1,h2⟩:=lg.1 ha;rw[CS _ _ _ _ _ h2];exact wY.1 h1
end Go.Proofs.YtffladgmkiimjaaGreatDoor
