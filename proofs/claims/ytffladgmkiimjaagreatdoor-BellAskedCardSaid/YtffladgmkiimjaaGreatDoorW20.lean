/- PACKED ONLY: two laws of LagStr that the base texts left out. LONE WAL .. -/
import Derived.Test.YtffladgmkiimjaaGreatDoorW03
import Derived.Test.YtffladgmkiimjaaGreatDoorW18
import Derived.Test.YtffladgmkiimjaaGreatDoorW02
import Derived.Test.YtffladgmkiimjaaGreatDoorW04
import Derived.Test.YtffladgmkiimjaaGreatDoorW00
import Derived.Deep.MidRow
import Derived.Test.YtffladgmkiimjaaGreatDoorW07
import Derived.Test.YtffladgmkiimjaaGreatDoorW15
import Derived.Test.YtffladgmkiimjaaGreatDoorW19
import Derived.Test.YtffladgmkiimjaaGreatDoorW05
import Derived.Test.YtffladgmkiimjaaGreatDoorW12
set_option linter.all false
set_option maxHeartbeats 100000000
set_option maxRecDepth 1000000
open Array renaming replicate → aaz,getElem?_eq_some_iff → zb
open Go renaming World → WO,undef → aaC,Value → aag
open Go.Code renaming wp → aaN
open Go.Ending renaming returned → aas
open Go.IntKind renaming i64 → jx
open Go.Operand renaming tmp → aal
open Go.Proofs.Tryz renaming prog → pO
open Go.RowKit renaming Below → aaj
open Go.RowKit.Below renaming refl → WB
open Go.Value renaming bool → L9,agg → aaf,int → aaq,tuple → aat,bool → aav,slice → cO,int → k8
open List renaming getElem_mem → aaB,range → aaG,getElem?_eq_getElem → aau
open Nat renaming reduceEqDiff → aac,le_refl → aai,le_trans → aar
namespace Go.Lag
open Go Go.RowKit Go.Proofs.YtffladgmkiimjaaGreatDoor
section
variable{P:Program}{ops:Array Oper}{base:List (Tmp × aag)}{C:Cf}{n:Nat}{S:WO→Prop}{a0:Act}
variable{Q:Exit→Act→WO→Prop}
variable{dL:List (Tmp × aag)}{i m:Nat}{W:WO}
theorem acK(C:Cf)(d:Option Tmp){f:FuncId}{args:Array aag}{Φ:Ending→WO→Prop}(hF:iV n a0 base)(hF2:iV n a0 dL)(hc:Calls P f args W Φ)(hk:∀e w,Φ e w→∃v,e=aas v∧∀a,iV n a (jk d v dL)→wpOps P ops Q (List.range' (i+1) m) a w)(he:(C2 P ops base C n dL i d,look P #[] (execOp (qT base []) (opAt ops i)))=(true,some (.enter f args,[])):=by kernel_rfl):wpOps P ops Q (List.range' i (m+1)) a0 W:=by
 rw[Prod.mk.injEq] at he;exact Ye C d (R:=fun v w=>∀a,iV n a (jk d v dL)→wpOps P ops Q (List.range' (i+1) m) a w) hF hF2 he.1 (.call (mY he.2 (by simp)) hc fun e w h=>hk e w h) fun v w h=>h
theorem aaJ(C:Cf){B:Nat}(cs cs':Array aag){t:TypeId}(l:List Nat)(hF:iV n a0 base)(hF2:iV n a0 dL)(hB:W.heap[B]?=some (.cells cs t (0,0)))(hk:∀w a,But B W w→w.heap[B]?=some (.cells cs' t (0,0))→iV n a dL→wpOps P ops Q (List.range' (i+1) m) a w)(he:(C2 P ops base C n dL i none,(stores P (execOp (qT base []) (opAt ops i))).map fun q=>(q.map (·.1),(q.all fun p=>Nat.blt p.2.1 cs.size),Ds cs q))=(true,some (l.map fun _=>B,true,cs')):=by kernel_rfl):wpOps P ops Q (List.range' i (m+1)) a0 W:=by
 obtain⟨h1,h2⟩:=aa7 C cs cs' hB l he;obtain⟨w',g1,g2,g3⟩:=h2 W hB;exact Ye C none (R:=fun v w=>But B W w∧w.heap[B]?=some (.cells cs' t (0,0))) hF hF2 h1 (.skip g1 ⟨g3,g2⟩) fun v w h a hl=>hk w a h.1 h.2 hl
end
end Go.Lag
namespace Go.Proofs.YtffladgmkiimjaaGreatDoor
open Go.RowKit Go.Lag
theorem acm(b:BB)(p1 p2 p3:Option Addr)(c1 c2 c3:Nat)(ml:List Mn)(ss:List Int)(ms:List Mk)(w:WO)(hL:Laid w)(hB:cH b (cO p1 ml.length c1) (cO p2 ss.length c2) (cO p3 ms.length c3) ml ss ms w)(hno:bn b ml ss ms=[]) :
  Calls pO 103 #[aaf (b.cells (cO p1 ml.length c1) (cO p2 ss.length c2) (cO p3 ms.length c3)),.func (.func 122) #[] #[]] w fun e w'=>e=aas (aat #[aaf gU,k8 jx 9])∧aaj w.heap.size w w':=by
 have ug:∀W,aaj w.heap.size w W→_:=fun W hb=>eY b _ _ _ ml ss ms W (hL.below hb) (hB.below hb);have Ul:∀W,aaj w.heap.size w W→_:=fun W hb=>oC b _ _ _ ml ss ms W (hB.below hb);rw[hno] at Ul;generalize ml.length=n1 at *;generalize ss.length=n2 at *;generalize ms.length=n3 at *;refine calls_of_wp Tryz.func103 rfl ?_;have hF:=ki (args:=#[aaf (b.cells (cO p1 n1 c1) (cO p2 n2 c2) (cO p3 n3 c3)),.func (.func 122) #[] #[]]) (n:=37) (by simp) [(1,.func (.func 122) #[] #[]),(0,aaf (b.cells (cO p1 n1 c1) (cO p2 n2 c2) (cO p3 n3 c3)))] ⟨mO rfl,mO rfl,trivial⟩;rw[show Tryz.f103.ntmps=37 from rfl];generalize (⟨#[aaf (b.cells (cO p1 n1 c1) (cO p2 n2 c2) (cO p3 n3 c3)),.func (.func 122) #[] #[]]++aaz (37-(#[aaf (b.cells (cO p1 n1 c1) (cO p2 n2 c2) (cO p3 n3 c3)),.func (.func 122) #[] #[]]:Array aag).size) aaC,[]⟩:Act)=a at *;refine(fun h:∀W,aaj w.heap.size w W→aaN pO _ _ a W=>h w (WB _ _)) ?_;intro W hw;refine TQ (N:=3) rfl ?_;refine Oj ⟨[],[],[],[]⟩ (some 2) (fun B=>pv B 0) (b.cells (cO p1 n1 c1) (cO p2 n2 c2) (cO p3 n3 c3)) 28 hF hF ?_;intro B2 W1 a G2 ho k2 hF;have j2:=(zb.1 k2).1;replace hw:=hw.tr ho;clear ho;refine Oj ⟨[],[],[],[]⟩ (some 4) (fun B=>pv B 0) gU 122 hF hF ?_;intro B4 W2 a qac ho k4 hF;have g4:=aar hw.size qac;replace hw:=hw.tr ho;replace k2:=aL k2 ho;have j4:=(zb.1 k4).1;clear ho;refine qJ 2 1 0 ⟨[],[],[],[]⟩ [(5,k8 jx 0)] hF hF trivial trivial ?_;intro a W3 ho hF;have j3:=ho.size;replace hw:=hw.tr ho;replace k2:=aL k2 ho;replace k4:=aL k4 ho;clear ho;refine XD ?_;refine wp_seq ?_;refine jM ⟨[],[(1,k8 jx 0)],[(B2,b.cells (cO p1 n1 c1) (cO p2 n2 c2) (cO p3 n3 c3))],[]⟩ [(6,k8 jx 0)] hF hF ⟨fun w1 hS=>⟨_,_,aL k2 hS⟩,trivial⟩ ⟨fun w1 hS _=>gc (ug w1 (hw.tr hS)),trivial⟩ ?_;intro a W4 ho hF;have j5:=ho.size;replace hw:=hw.tr ho;replace k2:=aL k2 ho;replace k4:=aL k4 ho;clear ho;refine jM ⟨[],[],[],[]⟩ [(12,L9 false)] hF hF trivial trivial ?_;intro a W10 ho hF;have j10:=ho.size;replace hw:=hw.tr ho;replace k2:=aL k2 ho;replace k4:=aL k4 ho;clear ho;refine wp_cond (t:=false) (hF.g 0 rfl) ?_;show aaN pO _ _ _ _;refine wp_skip ?_;show aaN pO _ _ _ _;refine TQ (N:=5) rfl ?_;refine qJ 0 3 2 ⟨[],[],[(B2,(b.cells (cO p1 n1 c1) (cO p2 n2 c2) (cO p3 n3 c3)))],[]⟩ [(17,aaf (b.open (cO p1 n1 c1) (cO p2 n2 c2) (cO p3 n3 c3) (cO none 0 0)))] hF hF ⟨fun w1 hS=>⟨_,_,aL k2 hS⟩,trivial⟩ trivial ?_;intro a W11 ho hF;have j11:=ho.size;replace hw:=hw.tr ho;replace k2:=aL k2 ho;replace k4:=aL k4 ho;clear ho;refine Oj ⟨[],[],[],[]⟩ (some 7) (fun B=>pv B 0) gU 122 hF hF ?_;intro B7 W12 a qaj ho k7 hF;have g7:=aar hw.size qaj;replace hw:=hw.tr ho;replace k2:=aL k2 ho;replace k4:=aL k4 ho;have qal:=(zb.1 k7).1;clear ho;refine aaJ ⟨[],[],[],[]⟩ _ (b.open (cO p1 n1 c1) (cO p2 n2 c2) (cO p3 n3 c3) (cO none 0 0)) (aaG 16) hF hF k7 ?_;intro W13 a up k7 hF;replace hw:=up.below hw g7;replace k2:=(up.block _ (by omega)).trans k2;replace k4:=(up.block _ (by omega)).trans k4;clear up;refine XD ?_;refine wp_seq ?_;refine jM ⟨[],[(3,k8 jx 0)],[(B7,(b.open (cO p1 n1 c1) (cO p2 n2 c2) (cO p3 n3 c3) (cO none 0 0)))],[]⟩ [(8,k8 jx 0)] hF hF ⟨fun w1 hS=>⟨_,_,aL k7 hS⟩,trivial⟩ ⟨fun w1 hS _=>gc (Bx b (cO p1 n1 c1) (cO p2 n2 c2) (cO p3 n3 c3) w1),trivial⟩ ?_;intro a W14 ho hF;have j14:=ho.size;replace hw:=hw.tr ho;replace k2:=aL k2 ho;replace k4:=aL k4 ho;replace k7:=aL k7 ho;clear ho;refine jM ⟨[],[],[],[]⟩ [(23,L9 false)] hF hF trivial trivial ?_;intro a W15 ho hF;have j15:=ho.size;replace hw:=hw.tr ho;replace k2:=aL k2 ho;replace k4:=aL k4 ho;replace k7:=aL k7 ho;clear ho;refine wp_cond (t:=false) (hF.g 0 rfl) ?_;show aaN pO _ _ _ _;refine wp_skip ?_;show aaN pO _ _ _ _;refine wp_seq ?_;refine TQ (N:=6) rfl ?_;refine qJ 0 3 3 ⟨[],[],[(B7,(b.open (cO p1 n1 c1) (cO p2 n2 c2) (cO p3 n3 c3) (cO none 0 0)))],[]⟩ [(28,.func (.func 117) #[aaf (b.cells (cO p1 n1 c1) (cO p2 n2 c2) (cO p3 n3 c3))] #[])] hF hF ⟨fun w1 hS=>⟨_,_,aL k7 hS⟩,trivial⟩ trivial ?_;intro a W16 ho hF;have j16:=ho.size;replace hw:=hw.tr ho;replace k2:=aL k2 ho;replace k4:=aL k4 ho;replace k7:=aL k7 ho;clear ho;refine acK ⟨[],[],[],[]⟩ (some 29) (f:=116) (args:=#[.func (.func 117) #[aaf (b.cells (cO p1 n1 c1) (cO p2 n2 c2) (cO p3 n3 c3))] #[]]) hF hF (Ul _ hw) ?_;rintro _ W17 ⟨v,rfl,iU,ho⟩;obtain⟨pv9,cv9,rfl⟩:=dG iU.1;clear iU;refine⟨_,rfl,fun a hF=>?_⟩;replace hw:=hw.tr ho;replace k4:=aL k4 ho;replace k7:=aL k7 ho;clear ho k2;refine qJ 4 1 1 ⟨[],[],[],[]⟩ [(30,.pointer (some ⟨B7,15,none⟩))] hF hF trivial trivial ?_;intro a W18 ho hF;have j18:=ho.size;replace hw:=hw.tr ho;replace k4:=aL k4 ho;replace k7:=aL k7 ho;clear ho;refine aaJ ⟨[],[],[],[]⟩ _ (b.open (cO p1 n1 c1) (cO p2 n2 c2) (cO p3 n3 c3) (cO pv9 0 cv9)) [0] hF hF k7 ?_;intro W19 a up k7 hF;replace hw:=up.below hw g7;replace k4:=(up.block _ (by omega)).trans k4;clear up;refine XD ?_;refine jM ⟨[],[],[(B7,(b.open (cO p1 n1 c1) (cO p2 n2 c2) (cO p3 n3 c3) (cO pv9 0 cv9)))],[]⟩ [(34,L9 true)] hF hF ⟨fun w1 hS=>⟨_,_,aL k7 hS⟩,trivial⟩ trivial ?_;intro a W20 ho hF;have j20:=ho.size;replace hw:=hw.tr ho;replace k4:=aL k4 ho;clear ho;refine wp_cond (t:=true) (hF.g 0 rfl) ?_;show aaN pO _ _ _ _;replace hF:=hF.del 5;simp only[m5,jk,aac,reduceIte] at hF;refine TQ (N:=3) rfl ?_;refine qJ 0 1 2 ⟨[],[],[],[]⟩ [(35,aaf gU)] hF hF trivial trivial ?_;intro a W21 ho hF;have j21:=ho.size;replace hw:=hw.tr ho;replace k4:=aL k4 ho;clear ho;refine aaJ ⟨[],[],[],[]⟩ _ gU (aaG 16) hF hF k4 ?_;intro W22 a up k4 hF;replace hw:=up.below hw g4;clear up;refine qJ 2 1 0 ⟨[],[],[],[]⟩ [(5,k8 jx 9)] hF hF trivial trivial ?_;intro a W23 ho hF;have j23:=ho.size;replace hw:=hw.tr ho;replace k4:=aL k4 ho;clear ho;refine XD ?_;refine wp_ret ?_;show bodyPost pO Tryz.f103 (fun e w'=>e=aas (aat #[aaf gU,k8 jx 9])∧aaj w.heap.size w w') Exit.ret a W23;exact bodyPost_ret (results_cell_tmp rfl (hF.g 12 rfl) (run_loadVar_row _ B4 122 122 _ (0,0) _ k4 Tryz.underlying122 rfl (by kernel_rfl))) hF.defers ⟨by rw[show a.tmps.getD 5 aaC=_ from hF.g 0 rfl],hw⟩
theorem acL(b:BB)(p1 p2 p3:Option Addr)(c1 c2 c3:Nat)(ml:List Mn)(ss:List Int)(ms:List Mk)(w:WO)(hL:Laid w)(hB:cH b (cO p1 ml.length c1) (cO p2 ss.length c2) (cO p3 ms.length c3) ml ss ms w)(hno:bn b ml ss ms=[]) :
  Calls pO 53 #[aaf (b.cells (cO p1 ml.length c1) (cO p2 ss.length c2) (cO p3 ms.length c3))] w fun e w'=>e=aas (aat #[k8 jx 0,k8 jx 0,k8 jx 9])∧aaj w.heap.size w w':=by
 refine calls_of_wp Tryz.func53 rfl ?_;have hF:=ki (args:=#[aaf (b.cells (cO p1 ml.length c1) (cO p2 ss.length c2) (cO p3 ms.length c3))]) (n:=60) (by simp) [(0,aaf (b.cells (cO p1 ml.length c1) (cO p2 ss.length c2) (cO p3 ms.length c3)))] ⟨mO rfl,trivial⟩;rw[show Tryz.f53.ntmps=60 from rfl];generalize (⟨#[aaf (b.cells (cO p1 ml.length c1) (cO p2 ss.length c2) (cO p3 ms.length c3))]++aaz (60-(#[aaf (b.cells (cO p1 ml.length c1) (cO p2 ss.length c2) (cO p3 ms.length c3))]:Array aag).size) aaC,[]⟩:Act)=a at *;refine(fun h:∀W,aaj w.heap.size w W→aaN pO _ _ a W=>h w (WB _ _)) ?_;intro W hw;refine TQ (N:=4) rfl ?_;refine Oj ⟨[],[],[],[]⟩ (some 1) (fun B=>pv B 0) (b.cells (cO p1 ml.length c1) (cO p2 ss.length c2) (cO p3 ms.length c3)) 28 hF hF ?_;intro B1 W1 a G1 ho k1 hF;replace hw:=hw.tr ho;clear ho;refine qJ 1 3 0 ⟨[],[],[],[]⟩ [(2,k8 jx 0),(3,k8 jx 0),(4,k8 jx 0)] hF hF trivial trivial ?_;intro a W2 ho hF;replace hw:=hw.tr ho;replace k1:=aL k1 ho;clear ho;refine XD ?_;replace hF:=hF.del 4;simp only[m5,jk,aac,reduceIte] at hF;refine TQ (N:=8) rfl ?_;refine qJ 0 5 3 ⟨[],[(1,aat #[aaf gU,k8 jx 9])],[(B1,(b.cells (cO p1 ml.length c1) (cO p2 ss.length c2) (cO p3 ms.length c3)))],[]⟩ [(14,aaf gU),(15,k8 jx 9)] hF hF ⟨fun w1 hS=>⟨_,_,aL k1 hS⟩,trivial⟩ ⟨fun w1 hS _=>gc (acm b p1 p2 p3 c1 c2 c3 ml ss ms w1 (hL.below (hw.tr hS)) (hB.below (hw.tr hS)) hno),trivial⟩ ?_;intro a W3 ho hF;replace hw:=hw.tr ho;clear ho k1;refine Oj ⟨[],[],[],[]⟩ (some 5) (fun B=>pv B 0) gU 122 hF hF ?_;intro qab W4 a qai ho k5 hF;have g5:=aar hw.size qai;replace hw:=hw.tr ho;clear ho;refine aaJ ⟨[],[],[],[]⟩ _ gU (aaG 16) hF hF k5 ?_;intro W5 a up k5 hF;replace hw:=up.below hw g5;clear up;refine qJ 7 1 0 ⟨[],[],[],[]⟩ [(4,k8 jx 9)] hF hF trivial trivial ?_;intro a qad ho hF;replace hw:=hw.tr ho;clear ho;refine XD ?_;refine wp_seq ?_;refine jM ⟨[],[],[],[]⟩ [(17,L9 true)] hF hF trivial trivial ?_;intro a qan ho hF;replace hw:=hw.tr ho;clear ho;refine wp_cond (t:=true) (hF.g 0 rfl) ?_;show aaN pO _ _ _ _;have qA:=hF;replace hF:=hF.del 2;simp only[m5,jk,aac,reduceIte] at hF;replace hF:=hF.del 3;simp only[m5,jk,aac,reduceIte] at hF;replace hF:=hF.del 4;simp only[m5,jk,aac,reduceIte] at hF;refine jM ⟨[],[],[],[]⟩ [(2,k8 jx 0),(3,k8 jx 0),(4,k8 jx 9)] qA hF trivial trivial ?_;intro a qag ho hF;replace hw:=hw.tr ho;clear ho;refine wp_ret ?_;show bodyPost pO Tryz.f53 (fun e w'=>e=aas (aat #[k8 jx 0,k8 jx 0,k8 jx 9])∧aaj w.heap.size w w') Exit.ret a qag;refine bodyPost_ret (results_tmp3 rfl _ _ _) hF.defers ⟨?_,hw⟩;have e2:a.tmps.getD 2 aaC=k8 jx 0:=hF.g 2 rfl;have e3:a.tmps.getD 3 aaC=k8 jx 0:=hF.g 1 rfl;have e4:a.tmps.getD 4 aaC=k8 jx 9:=hF.g 0 rfl;rw[e2,e3,e4]
def aax(ml:List Mn)(i:Nat)(x y:Int):List Mn:=ml.modify i fun m=>⟨m.name,x,y⟩
theorem aaw(ml:List Mn)(i:Nat)(x y:Int):(aax ml i x y).length=ml.length:=by simp[aax]
theorem acu(ml:List Mn)(i:Nat)(hi:i<ml.length)(x y:Int)(j:Nat)(u:aag)(h:(fF (aax ml i x y))[j]?=some u) :
  (j=3*i+1∧u=k8 jx x)∨(j=3*i+2∧u=k8 jx y)∨(j≠3*i+1∧j≠3*i+2∧(fF ml)[j]?=some u):=by
 have hj:j<(fF (aax ml i x y)).length:=(List.getElem?_eq_some_iff.1 h).1;rw[vD,aaw] at hj;have hk:j / 3<ml.length:=by omega
 have e:j=3*(j / 3)+j % 3:=by omega
 have hk2:j / 3<(aax ml i x y).length:=by rw[aaw];exact hk
 rw[e,rS _ _ _ hk2 (by omega)] at h
 by_cases zL:j / 3=i
 ·have h3:(aax ml i x y)[j / 3]=⟨(ml[j / 3]).name,x,y⟩:=by simp[aax,List.getElem_modify,zL]
  rw[h3] at h;have h5:j % 3=0∨j % 3=1∨j % 3=2:=by omega
  rcases h5 with h5|h5|h5
  ·refine .inr (.inr ⟨by omega,by omega,?_⟩);rw[e,rS _ _ _ hk (by omega),h5];rw[h5] at h;simpa [Mn.cells] using h
  ·rw[h5] at h;refine .inl ⟨by omega,?_⟩;simpa [Mn.cells,eq_comm] using h
  ·rw[h5] at h;refine .inr (.inl ⟨by omega,?_⟩);simpa [Mn.cells,eq_comm] using h
 ·have h3:(aax ml i x y)[j / 3]=ml[j / 3]:=by simp[aax,List.getElem_modify,Ne.symm zL]
  rw[h3] at h;refine .inr (.inr ⟨by omega,by omega,?_⟩);rw[e,rS _ _ _ hk (by omega)];exact h
theorem acn(w:WO)(B o:Nat)(vs:List aag):But B w (w.setCells B o vs):=by
 induction vs generalizing o w with
 |nil=>exact⟨rfl,rfl,rfl,rfl,fun _ _=>rfl⟩
 |cons v r ih=>
  have h:=ih (w.setCell ⟨B,o,none⟩ v) (o+1);exact⟨h.os,h.tape,h.output,h.size.trans (by simp),fun k hk=>(h.block k hk).trans (Below.heap_setCell w ⟨B,o,none⟩ v k hk)⟩
theorem Yields.acg{P:Program}{o:Oper}{ev:Operand→aag}{w:WO}{R:aag→WO→Prop}(ty:TypeId)(x y:Operand)(ho:o.op=.store ty x y)(g f:Nat)(cells:Array aag)(hx:ev x=.pointer (some ⟨g,f,none⟩))(hy:ev y=aaf cells)
  (ht:w.there g f cells.size) (hi:(P.info? ty).map (·.size)=some cells.size) (h1:cells.all (·.oneCell')=true) (h:R aaC (w.setCells g f cells.toList)):Lag.Yields P o ev w R:=by
 refine Lag.Yields.skip (w':=w.setCells g f cells.toList) ?_ h;unfold execOp;simp only[ho,hx,hy,Instr.storeAt,Instr.sureAddr,Sem.run_bind,Sem.run_pure,Result.andThen_ok,run_storeVar_mid w g f ty cells ht hi h1]
theorem ab3(b:BB)(p1 p2 p3:Option Addr)(c1 n2 c2 n3 c3:Nat)(ml:List Mn)(hlen:ml.length≤20)(i:Nat)(hi:i<ml.length)(x y:Int)(w:WO)(hv:Reads w (cO p1 ml.length c1) ml.length (fF ml)) :
  Calls pO 92 #[aaf (b.cells (cO p1 ml.length c1) (cO p2 n2 c2) (cO p3 n3 c3)),k8 jx (i:Int),aaf #[k8 jx x,k8 jx y]] w fun e w'=>∃v,e=aas (aaf (b.cells v (cO p2 n2 c2) (cO p3 n3 c3)))∧Reads w' v ml.length (fF (aax ml i x y))∧aaj w.heap.size w w':=by
 obtain⟨i1,E7,hz1,hz2,hz3⟩:=info_parts Yw;refine calls_of_wp Tryz.func92 rfl ?_;have hF:=ki (args:=#[aaf (b.cells (cO p1 ml.length c1) (cO p2 n2 c2) (cO p3 n3 c3)),k8 jx (i:Int),aaf #[k8 jx x,k8 jx y]]) (n:=21) (by simp) [(2,aaf #[k8 jx x,k8 jx y]),(1,k8 jx (i:Int)),(0,aaf (b.cells (cO p1 ml.length c1) (cO p2 n2 c2) (cO p3 n3 c3)))] ⟨mO rfl,mO rfl,mO rfl,trivial⟩;rw[show Tryz.f92.ntmps=21 from rfl];generalize (⟨#[aaf (b.cells (cO p1 ml.length c1) (cO p2 n2 c2) (cO p3 n3 c3)),k8 jx (i:Int),aaf #[k8 jx x,k8 jx y]]++aaz (21-(#[aaf (b.cells (cO p1 ml.length c1) (cO p2 n2 c2) (cO p3 n3 c3)),k8 jx (i:Int),aaf #[k8 jx x,k8 jx y]]:Array aag).size) aaC,[]⟩:Act)=a at *;refine(fun h:∀W,aaj w.heap.size w W→aaN pO _ _ a W=>h w (WB _ _)) ?_;intro W hw;refine TQ (N:=3) rfl ?_;refine Oj ⟨[],[],[],[]⟩ (some 3) (fun B=>pv B 0) (b.cells (cO p1 ml.length c1) (cO p2 n2 c2) (cO p3 n3 c3)) 28 hF hF ?_;intro B3 W1 a qaa ho k3 hF;replace hw:=hw.tr ho;have g3:=aar hw.size (aai _);have j3:=(zb.1 k3).1;clear ho qaa;refine Oj ⟨[],[],[],[]⟩ (some 5) (fun B=>pv B 0) #[k8 jx x,k8 jx y] 23 hF hF ?_;intro qab W2 a qai ho k5 hF;replace hw:=hw.tr ho;replace k3:=aL k3 ho;have j5:=(zb.1 k5).1;clear ho;refine Oj ⟨[],[],[],[]⟩ (some 6) (fun B=>pv B 0) #[k8 jx 0,k8 jx 0,k8 jx 0,k8 jx 0,k8 jx 0,k8 jx 0,k8 jx 0,k8 jx 0,k8 jx 0,k8 jx 0,k8 jx 0,k8 jx 0,cO none 0 0,cO none 0 0,cO none 0 0] 28 hF hF ?_;intro qap W3 a qae ho k6 hF;have g6:=aar hw.size qae;replace hw:=hw.tr ho;replace k3:=aL k3 ho;replace k5:=aL k5 ho;have j6:=(zb.1 k6).1;clear ho;refine XD ?_;refine TQ (N:=3) rfl ?_;refine qJ 0 1 2 ⟨[],[],[(B3,(b.cells (cO p1 ml.length c1) (cO p2 n2 c2) (cO p3 n3 c3)))],[]⟩ [(8,aaf (b.cells (cO p1 ml.length c1) (cO p2 n2 c2) (cO p3 n3 c3)))] hF hF ⟨fun w1 hS=>⟨_,_,aL k3 hS⟩,trivial⟩ trivial ?_;intro a W4 ho hF;have g4:=ho.size;replace hw:=hw.tr ho;replace k3:=aL k3 ho;replace k5:=aL k5 ho;replace k6:=aL k6 ho;clear ho;refine Oj ⟨[],[],[],[]⟩ (some 7) (fun B=>pv B 0) #[k8 jx 0,k8 jx 0,k8 jx 0,k8 jx 0,k8 jx 0,k8 jx 0,k8 jx 0,k8 jx 0,k8 jx 0,k8 jx 0,k8 jx 0,k8 jx 0,cO none 0 0,cO none 0 0,cO none 0 0] 28 hF hF ?_;intro B7 W5 a qaj ho k7 hF;have g7:=aar hw.size qaj;replace hw:=hw.tr ho;replace k3:=aL k3 ho;replace k5:=aL k5 ho;replace k6:=aL k6 ho;have qal:=(zb.1 k7).1;clear ho;refine aaJ ⟨[],[],[],[]⟩ _ (b.cells (cO p1 ml.length c1) (cO p2 n2 c2) (cO p3 n3 c3)) (aaG 15) hF hF k7 ?_;intro qad a up k7 hF;have s6:=up.size;replace hw:=up.below hw g7;replace k3:=(up.block _ (by omega)).trans k3;replace k5:=(up.block _ (by omega)).trans k5;replace k6:=(up.block _ (by omega)).trans k6;clear up;refine XD ?_;replace hF:=hF.del 8;simp only[m5,jk,aac,reduceIte] at hF;refine TQ (N:=6) rfl ?_;refine Oj ⟨[],[],[],[]⟩ (some 9) (fun B=>cO (some ⟨B,0,none⟩) 0 0) #[] 79 hF hF ?_;intro qam qan a qak ho qaf hF;have g9:=aar hw.size qak;replace hw:=hw.tr ho;replace k3:=aL k3 ho;replace k5:=aL k5 ho;replace k6:=aL k6 ho;replace k7:=aL k7 ho;clear ho;refine qJ 1 2 3 ⟨[],[],[(B3,(b.cells (cO p1 ml.length c1) (cO p2 n2 c2) (cO p3 n3 c3)))],[]⟩ [(11,cO p1 ml.length c1)] hF hF ⟨fun w1 hS=>⟨_,_,aL k3 hS⟩,trivial⟩ trivial ?_;intro a qag ho hF;replace hw:=hw.tr ho;replace k3:=aL k3 ho;replace k5:=aL k5 ho;replace k6:=aL k6 ho;replace k7:=aL k7 ho;replace qaf:=aL qaf ho;clear ho;refine Ye ⟨[],[],[],[]⟩ (some 12) (R:=fun v w1=>w1.ownsRow qad.heap.size 79 3 v ml.length (fF ml)∧aaj qag.heap.size qag w1) hF hF (by kernel_rfl) (Yields.append_empty (aal 9) (aal 11) 24 (by kernel_rfl) qad.heap.size 79 i1 (aaf #[.string ⟨#[]⟩,k8 jx 0,k8 jx 0]) 3 32 Tryz.underlying24 E7 hz1 hz2 hz3 rfl (by decide) qam (by kernel_rfl) qaf qak (cO p1 ml.length c1) ml.length (fF ml) (by kernel_rfl) (by rw[vD,Nat.mul_comm]) (hv.below hw).src ?_ (by unfold maxLen;omega) (by omega) fun v' w' h1 h2 _=>⟨h1,h2⟩) ?_
 ·intro u hu;simp only[fF,List.mem_flatMap] at hu;obtain⟨m,-,hu⟩:=hu;simp[Mn.cells] at hu;rcases hu with rfl|rfl|rfl<;>rfl
 rintro v12 qah ⟨hown,ho⟩ a hF;replace hw:=hw.tr ho;replace k5:=aL k5 ho;replace k6:=aL k6 ho;replace k7:=aL k7 ho;clear ho k3 qaf;obtain⟨hxl,⟨-,h0⟩|⟨G,cap,cur,rfl,hG,k12,vT,hcm,hcs,SX⟩⟩:=hown
 ·omega
 refine qJ 4 1 1 ⟨[],[],[],[]⟩ [(13,.pointer (some ⟨B7,12,none⟩))] hF hF trivial trivial ?_;intro a W10 ho hF;replace hw:=hw.tr ho;replace k5:=aL k5 ho;replace k6:=aL k6 ho;replace k7:=aL k7 ho;replace k12:=aL k12 ho;clear ho;refine aaJ ⟨[],[],[],[]⟩ _ (b.cells (cO (some ⟨G,0,none⟩) ml.length cap) (cO p2 n2 c2) (cO p3 n3 c3)) [0] hF hF k7 ?_;intro W11 a up k7 hF;replace hw:=up.below hw g7;replace k5:=(up.block _ (by omega)).trans k5;replace k6:=(up.block _ (by omega)).trans k6;replace k12:=(up.block _ (by omega)).trans k12;clear up;refine XD ?_;refine TQ (N:=7) rfl ?_;refine qJ 0 6 1 ⟨[],[(4,.pointer (some ⟨G,i*3,none⟩))],[(B7,(b.cells (cO (some ⟨G,0,none⟩) ml.length cap) (cO p2 n2 c2) (cO p3 n3 c3))),(qab,#[k8 jx x,k8 jx y])],[(3,1)]⟩ [(17,aaf #[k8 jx x,k8 jx y]),(19,.pointer (some ⟨G,i*3+1,none⟩))] hF hF ⟨fun w1 hS=>⟨_,_,aL k7 hS⟩,fun w1 hS=>⟨_,_,aL k5 hS⟩,trivial⟩ ⟨fun w1 hS _=>gs (Instr.indexAt 24 (cO (some ⟨G,0,none⟩) ml.length cap) (k8 jx (i:Int))) (by have h1:¬(ml.length≤i):=(by omega);go_simp),trivial⟩ ?_;intro a W12 ho hF;replace hw:=hw.tr ho;replace k6:=aL k6 ho;replace k7:=aL k7 ho;replace k12:=aL k12 ho;clear ho k5;have hcz:i*3+2<cur.size:=by rw[hcs];omega
 have hcell:∀j,j<cur.size→W12.cell? ⟨G,j,none⟩=cur[j]?:=fun j hj=>(aH k12 j _ (Array.getElem?_eq_getElem hj)).trans (Array.getElem?_eq_getElem hj).symm;have hth:W12.there G (i*3+1) 2:=fun j hj=>⟨by rw[hcell _ (by omega),Array.getElem?_eq_getElem (show i*3+1+j<cur.size by omega)];rfl,cN k12 _⟩
 refine Ye ⟨[],[],[],[]⟩ none (R:=fun _ w1=>w1=W12.setCells G (i*3+1) [k8 jx x,k8 jx y]) hF hF (by kernel_rfl) (Yields.acg 23 (aal 19) (aal 17) (by kernel_rfl) G (i*3+1) #[k8 jx x,k8 jx y] (by kernel_rfl) (by kernel_rfl) hth (by kernel_rfl) (by simp[Value.oneCell']) rfl) ?_;rintro _ W13 hW a hF;have up:But G W12 W13:=hW▸acn _ _ _ _
 have hr:Reads W13 (cO (some ⟨G,0,none⟩) ml.length cap) ml.length (fF (aax ml i x y)):=by
  refine .inr ⟨G,0,cap,rfl,⟨by omega,vT⟩,by rw[up.size];exact(zb.1 k12).1,fun j u hu=>?_⟩;rw[hW,Nat.zero_add];have hin:=World.cell?_setCells_in G [k8 jx x,k8 jx y] (i*3+1) W12 (fun j hj=>(hth j hj).1);rcases acu ml i hi x y j u hu with⟨rfl,rfl⟩|⟨rfl,rfl⟩|⟨h1,h2,h3⟩
  ·have:=hin 0 (by simp);rw[show 3*i+1=i*3+1+0 by omega];exact this
  ·have:=hin 1 (by simp);rw[show 3*i+2=i*3+1+1 by omega];exact this
  ·rw[World.cell?_setCells_out G _ _ W12 ⟨G,j,none⟩ (fun _ _=>by simp;omega)];rw[←SX,List.getElem?_take] at h3;split at h3
   ·have h4:cur[j]?=some u:=by simpa using h3
    rw[hcell j (zb.1 h4).1];exact h4
   ·cases h3
 replace hw:=up.below hw (by omega);replace k6:=(up.block _ (by omega)).trans k6;replace k7:=(up.block _ (by omega)).trans k7;clear up hW k12 hcell hth;refine XD ?_;refine TQ (N:=2) rfl ?_;refine qJ 0 1 1 ⟨[],[],[(B7,(b.cells (cO (some ⟨G,0,none⟩) ml.length cap) (cO p2 n2 c2) (cO p3 n3 c3)))],[]⟩ [(20,aaf (b.cells (cO (some ⟨G,0,none⟩) ml.length cap) (cO p2 n2 c2) (cO p3 n3 c3)))] hF hF ⟨fun w1 hS=>⟨_,_,aL k7 hS⟩,trivial⟩ trivial ?_;intro a W14 ho hF;replace hw:=hw.tr ho;replace k6:=aL k6 ho;replace hr:=hr.below ho;have j12:=ho.size;clear ho k7;refine aaJ ⟨[],[],[],[]⟩ _ (b.cells (cO (some ⟨G,0,none⟩) ml.length cap) (cO p2 n2 c2) (cO p3 n3 c3)) (aaG 15) hF hF k6 ?_;intro W15 a up k6 hF;replace hw:=up.below hw g6
 replace hr:Reads W15 (cO (some ⟨G,0,none⟩) ml.length cap) ml.length (fF (aax ml i x y)):=by
  rcases hr with⟨h0,-,-⟩|⟨g,off,cp,h1,h2,h3,h4⟩
  ·cases h0
  ·refine .inr ⟨g,off,cp,h1,h2,by rw[up.size];exact h3,fun j u hj=>?_⟩;have hg:g=G:=by cases h1;rfl
   rw[←h4 j u hj];unfold World.cell?;simp only[up.block g (by rw[hg];omega)]
 refine XD ?_;refine wp_ret ?_;exact bodyPost_ret (results_cell_row rfl _ _ qap 28 _ (0,0) _ (hF.g 8 rfl) k6 Tryz.underlying28 rfl (by kernel_rfl)) hF.defers ⟨_,rfl,hr,hw⟩
theorem aaI{d:Array Int}:∀(m:Nat),m≤d.size→∀j (hj:j<m),d[j]!∈Lib.compactUpTo d m
 |0,_,j,hj=>by omega
 |m+1,h,j,hj=>by
  rw[Lib.compactUpTo_succ]
  by_cases e:j<m
  ·exact List.mem_append_left _ (aaI m (by omega) j e)
  ·obtain rfl:j=m:=by omega
   by_cases k:Lib.keeps d j=true
   ·simp[k]
   ·have hj0:0<j:=by
     rcases Nat.eq_zero_or_pos j with rfl|h0
     ·exact absurd (Lib.keeps_lt_one d 0 (by omega)) k
     ·exact h0
    have e2:(d[j]!)=d[j-1]!:=by
     by_cases e3:(d[j]!)=d[j-1]!
     ·exact e3
     ·exact absurd (Lib.keeps_pos e3) k
    rw[e2];exact List.mem_append_left _ (aaI j (by omega) (j-1) (by omega))
theorem aaH{d:Array Int}:∀(m:Nat) x,x∈Lib.compactUpTo d m→∃j,j<m∧x=d[j]!
 |0,x,h=>by simp[Lib.compactUpTo] at h
 |m+1,x,h=>by
  rw[Lib.compactUpTo_succ] at h;rcases List.mem_append.1 h with h|h
  ·obtain⟨j,h1,h2⟩:=aaH m x h;exact⟨j,by omega,h2⟩
  ·by_cases k:Lib.keeps d m=true
   ·rw[if_pos k] at h;exact⟨m,by omega,by simpa using h⟩
   ·rw[if_neg k] at h;cases h
theorem abM{d:Array Int}(hd:∀i j,i≤j→j<d.size→d[i]!≤d[j]!):∀(m:Nat),m≤d.size→(Lib.compactUpTo d m).Pairwise (· < ·)
 |0,_=>by simp[Lib.compactUpTo]
 |m+1,h=>by
  rw[Lib.compactUpTo_succ];refine List.pairwise_append.2 ⟨abM hd m (by omega),by split<;>simp,fun x hx y hy=>?_⟩
  by_cases k:Lib.keeps d m=true
  ·rw[if_pos k] at hy;obtain rfl:y=d[m]!:=by simpa using hy
   obtain⟨j,hj,rfl⟩:=aaH m x hx;have h1:=hd j (m-1) (by omega) (by omega);have h2:=hd (m-1) m (by omega) (by omega);have h3:d[m]!≠d[m-1]!:=fun e=>by rw[Lib.keeps_neg (by omega) e] at k;cases k
   omega
  ·rw[if_neg k] at hy;cases hy
theorem aaK{of:eA→Int}{l:List eA}{x:Int}:x∈gI of l↔∃a∈l,of a=x:=by
 unfold gI Lib.compact;have hp:(sorted (l.map of)).Perm (l.map of):=List.mergeSort_perm _ _;constructor
 ·intro h;obtain⟨j,hj,rfl⟩:=aaH _ _ h
  have:(sorted (l.map of)).toArray[j]!∈sorted (l.map of):=by
   rw[getElem!_pos _ _ (by simpa using hj)];simp
  obtain⟨a,h1,h2⟩:=List.mem_map.1 (hp.mem_iff.1 this);exact⟨a,h1,h2⟩
 ·rintro⟨a,h1,rfl⟩;have h2:of a∈sorted (l.map of):=hp.mem_iff.2 (List.mem_map.2 ⟨a,h1,rfl⟩);obtain⟨j,hj,e⟩:=List.getElem_of_mem h2;have:=aaI (d:=(sorted (l.map of)).toArray) _ (by simp) j hj;rwa [getElem!_pos _ _ (by simpa using hj),List.getElem_toArray,e] at this
theorem acz(of:eA→Int)(l:List eA):(gI of l).Pairwise (· < ·):=by
 unfold gI Lib.compact;refine abM (fun i j UC hj=>?_) _ (by simp);have hs:(sorted (l.map of)).Pairwise (fun x y=>decide (x≤y)=true):=List.pairwise_mergeSort (fun a b c h1 h2=>by simp at *;omega) (fun a b=>by simp;omega) _;rw[getElem!_pos (sorted (l.map of)).toArray i (by omega),getElem!_pos (sorted (l.map of)).toArray j hj];rcases Nat.lt_or_ge i j with h|h
 ·have:=List.pairwise_iff_getElem.1 hs i j (by simp at hj;omega) (by simpa using hj) h;simpa using this
 ·obtain rfl:i=j:=by omega
  omega
theorem ace:∀(l:List Int) (lo hi:Int),l.Pairwise (· < ·)→(∀x∈l,lo≤x∧x≤hi)→l.length≤(hi+1-lo).toNat
 |[],_,_,_,_=>Nat.zero_le _
 |x::l,lo,hi,h,hm=>by
  rw[List.pairwise_cons] at h;have h1:=ace l (x+1) hi h.2 fun y hy=>⟨by have:=h.1 y hy;omega,(hm y (List.mem_cons_of_mem _ hy)).2⟩
  have h2:=hm x (by simp);simp only[List.length_cons];omega
theorem ach(x:Int):fM x x=[x]:=by
 unfold fM;rw[show(x+1-x).toNat=1 by omega];simp
theorem aaQ{lo hi x:Int}:x∈fM lo hi↔lo≤x∧x≤hi:=by
 unfold fM;simp only[List.mem_map,List.mem_range];constructor
 ·rintro⟨i,h1,rfl⟩;omega
 ·rintro⟨h1,h2⟩;exact⟨(x-lo).toNat,by omega,by omega⟩
theorem abN(lo hi:Int):(fM lo hi).Nodup:=by
 unfold fM;show List.Pairwise (·≠·) _;rw[List.pairwise_map];exact List.nodup_range.imp fun h=>by omega
theorem eA.get_put(a:eA)(i:Nat)(n:Int)(h:i<3):(a.put i n).get i=n:=by
 match i,h with
 |0,_=>rfl
 |1,_=>rfl
 |2,_=>rfl
theorem eA.ab0(a:eA)(i j:Nat)(n:Int)(hi:i<3)(hj:j<3)(h:i≠j):(a.put j n).get i=a.get i:=by
 match i,j,hi,hj,h with
 |0,1,_,_,_|0,2,_,_,_|1,0,_,_,_|1,2,_,_,_|2,0,_,_,_|2,1,_,_,_=>rfl
 |0,0,_,_,h|1,1,_,_,h|2,2,_,_,h=>exact absurd rfl h
theorem aaD(ok:eA→Bool):∀(r:List Mn) (k:Nat) (a:eA) (i:Nat),i<k→k+r.length≤3→i<3→∀c∈leaves ok r k a,c.get i=a.get i
 |[],k,a,i,_,_,_,c,h=>by
  simp only[leaves] at h;split at h
  ·simp at h;rw[h]
  ·cases h
 |m::r,k,a,i,hik,h3,hi,c,h=>by
  simp only[leaves,List.mem_flatMap] at h;obtain⟨n,hn,h⟩:=h;simp only[List.length_cons] at h3;rw[aaD ok r (k+1) _ i (by omega) (by omega) hi c h,eA.ab0 a i k n hi (by omega) (by omega)]
theorem abU{α:Type}(f:Int→List α)(x:Int):∀l:List Int,l.Nodup→x∈l→l.flatMap (fun n=>if n=x then f n else[])=f x
 |[],_,h=>by cases h
 |n::l,hd,h=>by
  rw[List.nodup_cons] at hd;rw[List.flatMap_cons]
  by_cases e:n=x
  ·subst e;rw[if_pos rfl]
   have:l.flatMap (fun m=>if m=n then f m else[])=[]:=by
    rw[List.flatMap_eq_nil_iff];intro m hm;exact if_neg (fun e:m=n=>hd.1 (e▸hm))
   rw[this,List.append_nil]
  ·rw[if_neg e,List.nil_append];exact abU f x l hd.2 (by rcases List.mem_cons.1 h with h|h;exact absurd h.symm e;exact h)
theorem aaE(ok:eA→Bool)(x:Int):∀(l:List Mn) (i k:Nat) (a:eA),i<l.length→k+l.length≤3→(∀m,l[i]?=some m→m.lo≤x∧x≤m.hi)→
  leaves ok (aax l i x x) k a=(leaves ok l k a).filter fun c=>c.get (k+i)==x
 |[],i,k,a,hi,_,_=>by simp at hi
 |m::r,0,k,a,_,h3,hx=>by
  simp only[List.length_cons] at h3;have hx0:=hx m rfl;show leaves ok (⟨m.name,x,x⟩::r) k a=_;simp only[leaves,ach,List.flatMap_cons,List.flatMap_nil,List.append_nil,List.filter_flatMap,Nat.add_zero];rw[←abU (fun n=>leaves ok r (k+1) (a.put k n)) x (fM m.lo m.hi) (abN _ _) (aaQ.2 hx0)]
  congr 1
  funext n
  have hg:∀c∈leaves ok r (k+1) (a.put k n),c.get k=n:=fun c hc=>by
   rw[aaD ok r (k+1) _ k (by omega) (by omega) (by omega) c hc,eA.get_put a k n (by omega)]
  by_cases e:n=x
  ·subst e;rw[if_pos rfl,List.filter_eq_self.2];intro c hc;simp[hg c hc]
  ·rw[if_neg e,List.filter_eq_nil_iff.2];intro c hc;simp[hg c hc,e]
 |m::r,i+1,k,a,hi,h3,hx=>by
  simp only[List.length_cons] at h3 hi;show leaves ok (m::aax r i x x) k a=_;simp only[leaves,List.filter_flatMap]
  congr 1
  funext n
  rw[aaE ok x r i (k+1) (a.put k n) (by omega) (by omega) (fun m' h=>hx m' (by simpa using h)),show k+1+i=k+(i+1) by omega]
theorem abW(b:BB){ml:List Mn}(hm:wQ ml)(ss:List Int)(ms:List Mk)(i:Nat)(hi:i<ml.length)(x:Int)(hx:ml[i].lo≤x∧x≤ml[i].hi) :
  (bn b (aax ml i x x) ss ms).length=cnt i (bn b ml ss ms) x:=by
 have h3:=hm.len;unfold bn cnt;rw[List.countP_eq_length_filter,List.filter_flatMap]
 congr 2
 funext n
 have:=aaE (jH b ss ms) x ml i 0 ⟨n,0,0,0⟩ hi (by omega) (fun m h=>by rw[aau hi] at h;cases h;exact hx);rw[this,Nat.zero_add]
theorem ac2{ml:List Mn}(hm:wQ ml)(i:Nat)(hi:i<ml.length)(x:Int)(hx:ml[i].lo≤x∧x≤ml[i].hi):wQ (aax ml i x x):=by
 have hg:∀k (hk:k<(aax ml i x x).length),(aax ml i x x)[k]=if i=k then⟨(ml[k]'(by rw[aaw] at hk;exact hk)).name,x,x⟩ else ml[k]'(by rw[aaw] at hk;exact hk):=fun k hk=>by
  simp[aax,List.getElem_modify]
 refine⟨fun m h=>?_,fun j k hj hk hjk=>?_,by rw[aaw];exact hm.len⟩
 ·obtain⟨k,hk,rfl⟩:=List.getElem_of_mem h;rw[hg k hk];rw[aaw] at hk;have h1:=hm.mem ml[k] (aaB hk);have h2:=hm.mem ml[i] (aaB hi);split
  ·exact⟨h1.1,by show 1≤x;omega,by show x≤x;omega,by show x≤99;omega,by show x-x<3;omega⟩
  ·exact h1
 ·rw[hg j hj,hg k hk];rw[aaw] at hj hk;have:=hm.apart j k hj hk hjk;split<;>split<;>exact this
theorem aaL(b:BB){ml:List Mn}(hm:wQ ml)(ss:List Int)(ms:List Mk)(i:Nat)(hi:i<ml.length){a:eA}(ha:a∈bn b ml ss ms):ml[i].lo≤a.get i∧a.get i≤ml[i].hi:=by
 have h3:=hm.len
 have main:∀(l:List Mn) (k i:Nat) (a0:eA) (hi:i<l.length),k+l.length≤3→∀c∈leaves (jH b ss ms) l k a0,l[i].lo≤c.get (k+i)∧c.get (k+i)≤l[i].hi:=by
  intro l
  induction l with
  |nil=>intro k i a0 hi;simp at hi
  |cons m r ih=>
   intro k i a0 hi hk c hc;simp only[List.length_cons] at hi hk;simp only[leaves,List.mem_flatMap] at hc;obtain⟨n,hn,hc⟩:=hc
   match i,hi with
   |0,_=>
    have h1:=aaD _ r (k+1) _ k (by omega) (by omega) (by omega) c hc;rw[eA.get_put a0 k n (by omega)] at h1;rw[Nat.add_zero,h1];exact aaQ.1 hn
   |i+1,hi=>
    have:=ih (k+1) i _ (by omega) (by omega) c hc;rw[show k+(i+1)=k+1+i by omega];exact this
 unfold bn at ha;obtain⟨n,_,h⟩:=List.mem_flatMap.1 ha;have:=main ml 0 i _ hi (by omega) a h;rwa [Nat.zero_add] at this
def aay(i:Nat)(all:List eA)(l:List Int):Nat→Nat
 |0=>0
 |k+1=>max (aay i all l k) (cnt i all (l.getD k 0))
theorem abP(i:Nat)(all:List eA)(l:List Int)(B:Nat)(h:∀x,cnt i all x≤B):∀k,aay i all l k≤B
 |0=>Nat.zero_le _
 |k+1=>by have h1:=abP i all l B h k;have h2:=h (l.getD k 0);unfold aay;omega
theorem abQ(i:Nat)(all:List eA)(l:List Int):∀k j,j<k→cnt i all (l.getD j 0)≤aay i all l k
 |0,j,h=>by omega
 |k+1,j,h=>by
  unfold aay
  by_cases e:j<k
  ·have:=abQ i all l k j e;omega
  ·obtain rfl:j=k:=by omega
   omega
theorem acJ(i:Nat)(all:List eA)(x:Int)(j:Nat)(hj:j<all.length):cnt i (all.take (j+1)) x=cnt i (all.take j) x+if all[j].get i=x then 1 else 0:=by
 unfold cnt;rw[List.take_succ_eq_append_getElem hj,List.countP_append];simp[List.countP_cons]
theorem abg(i:Nat)(all:List eA)(x:Int):∀j,j≤all.length→cnt i (all.take j) x≤tN i all j
 |0,_=>by simp[cnt]
 |j+1,h=>by
  have h1:=abg i all x j (by omega);have h2:=acJ i all x j (by omega);have hg:all.getD j ⟨0,0,0,0⟩=all[j]'(by omega):=by rw[List.getD_eq_getElem?_getD,aau (by omega)];rfl
  unfold tN;rw[hg]
  by_cases e:(all[j]'(by omega)).get i=x
  ·rw[e];omega
  ·rw[h2,if_neg e];omega
theorem cnt_mono(i:Nat)(all:List eA)(x:Int)(j:Nat):cnt i (all.take j) x≤cnt i all x:=(List.take_sublist j all).countP_le
theorem abh(i:Nat)(all:List eA):∀j,j≤all.length→tN i all j=0∨∃a∈all,tN i all j≤cnt i all (a.get i)
 |0,_=>.inl rfl
 |j+1,h=>by
  have hg:all.getD j ⟨0,0,0,0⟩=all[j]'(by omega):=by rw[List.getD_eq_getElem?_getD,aau (by omega)];rfl
  have h2:=cnt_mono i all ((all[j]'(by omega)).get i) (j+1);unfold tN;rw[hg];rcases Nat.le_total (tN i all j) (cnt i (all.take (j+1)) ((all[j]'(by omega)).get i)) with e|e
  ·exact .inr ⟨all[j]'(by omega),aaB (by omega),by omega⟩
  ·rcases abh i all j (by omega) with h1|⟨a,h1,h3⟩
   ·exact .inl (by omega)
   ·exact .inr ⟨a,h1,by omega⟩
theorem abX(i:Nat)(all:List eA):aay i all (gI (fun a=>a.get i) all) (gI (fun a=>a.get i) all).length=tN i all all.length:=by
 refine Nat.le_antisymm (abP _ _ _ _ (fun x=>by have:=abg i all x all.length (aai _);rwa [List.take_length] at this) _) ?_;rcases abh i all all.length (aai _) with h|⟨a,h1,h2⟩
 ·omega
 ·have h3:a.get i∈gI (fun a=>a.get i) all:=aaK.2 ⟨a,h1,rfl⟩;obtain⟨j,hj,e⟩:=List.getElem_of_mem h3;have:=abQ i all (gI (fun a=>a.get i) all) _ j hj;rw[List.getD_eq_getElem?_getD,aau hj,Option.getD_some,e] at this;omega
structure adC(all:List eA)(k:Nat)(lH:Int)(left:Nat):Prop where
 le:left≤all.length
 none:lH<0→lH = -1∧left=all.length
 some:0≤lH→lH<k∧left<all.length∧tN lH.toNat all all.length=left∧∀j:Nat,(j:Int)<lH→left<tN j all all.length
 all:∀j,j<k→left≤tN j all all.length
theorem aaW(all:List eA):∀k,adC all k (rb all k).1 (rb all k).2
 |0=>⟨aai _,fun _=>⟨rfl,rfl⟩,fun h=>absurd h (by show ¬(0:Int)≤-1;decide),fun j hj=>by omega⟩
 |k+1=>by
  have h:=aaW all k;unfold rb
  by_cases hc:tN k all all.length<(rb all k).2
  ·rw[if_pos hc];have h1:=h.le;refine⟨by show tN k all all.length≤_;omega,fun h0=>absurd h0 (by show ¬((k:Int)<0);omega),fun _=>⟨by show(k:Int)<(k+1:Nat);omega,by show tN k all all.length<_;omega,rfl,fun j hj=>?_⟩,fun j hj=>?_⟩
   ·have:=h.all j (by have:(j:Int)<(k:Int):=hj;omega);show tN k all all.length<_;omega
   ·show tN k all all.length≤_
    by_cases e:j<k
    ·have:=h.all j e;omega
    ·obtain rfl:j=k:=by omega
     exact aai _
  ·rw[if_neg hc];refine⟨h.le,h.none,fun h0=>?_,fun j hj=>?_⟩
   ·obtain⟨h1,h2,h3,h4⟩:=h.some h0;exact⟨by omega,h2,h3,h4⟩
   ·by_cases e:j<k
    ·exact h.all j e
    ·obtain rfl:j=k:=by omega
     omega
theorem ade(a b:Nat)(w:WO):(Builtin.max_ #[3,3] 3 #[k8 jx (a:Int),k8 jx (b:Int)]).run pO w=.ok (k8 jx ((max a b:Nat):Int)) w:=by
 have h:((max a b:Nat):Int)=max (a:Int) b:=by omega
 rw[h];go_simp
theorem aaX{b:BB}{sent marks v:aag}{ml:List Mn}{ss:List Int}{ms:List Mk}{w:WO}(hL:Laid w)(cS:b.Ok)(hm:wQ ml)(hs:js b ss)(hk:jF b ms)(i:Nat)(hi:i<ml.length)(x:Int)(hx:ml[i].lo≤x∧x≤ml[i].hi)
  (h1:Reads w v ml.length (fF (aax ml i x x))) (h2:Reads w sent ss.length (ss.map (aaq jx))) (h3:Reads w marks ms.length (dm ms)):Calls pO 42 #[aaf (b.cells v sent marks)] w fun e w'=>e=aas (aat #[k8 jx (cnt i (bn b ml ss ms) x:Nat),k8 jx 0])∧aaj w.heap.size w w':=by
 rw[←aaw ml i x x] at h1;have h:=zI b v sent marks _ ss ms w hL ⟨cS,ac2 hm i hi x hx,hs,hk,h1,h2,h3⟩;rwa [abW b hm ss ms i hi x hx] at h
theorem abY(b:BB)(p1 p2 p3:Option Addr)(c1 c2 c3:Nat)(ml:List Mn)(ss:List Int)(ms:List Mk)(i:Nat)(hi:i<ml.length)(w:WO)(hL:Laid w)(hB:cH b (cO p1 ml.length c1) (cO p2 ss.length c2) (cO p3 ms.length c3) ml ss ms w)(hne:bn b ml ss ms≠[]):Calls pO 54 #[aaf (b.cells (cO p1 ml.length c1) (cO p2 ss.length c2) (cO p3 ms.length c3)),k8 jx (i:Int)] w fun e w'=>e=aas (aat #[k8 jx (tN i (bn b ml ss ms) (bn b ml ss ms).length:Nat),L9 true])∧aaj w.heap.size w w':=by
 have hn3:((gI (fun a=>a.get i) (bn b ml ss ms)).length)≤3:=by
  have h1:=ace _ ml[i].lo ml[i].hi (acz (fun a=>a.get i) (bn b ml ss ms)) fun x hx=>by obtain⟨a,h2,rfl⟩:=aaK.1 hx;exact aaL b hB.gV ss ms i hi h2
  have h2:=hB.gV.mem ml[i] (aaB hi);omega
 have hreach:∀x∈gI (fun a=>a.get i) (bn b ml ss ms),ml[i].lo≤x∧x≤ml[i].hi:=fun x hx=>by obtain⟨a,h2,rfl⟩:=aaK.1 hx;exact aaL b hB.gV ss ms i hi h2
 have hmw:=abX i (bn b ml ss ms);have HB:∀w9,aaj w.heap.size w w9→_:=fun w9 h9=>E5 b _ _ _ ml ss ms w9 (hL.below h9) (hB.below h9) hne i hi;have HK:∀w9,aaj w.heap.size w w9→∀x,x∈gI (fun a=>a.get i) (bn b ml ss ms)→∀v,Reads w9 v ml.length (fF (aax ml i x x))→_:=fun w9 h9 x hx v h1=>aaX (hL.below h9) hB.ok hB.gV hB.l5 hB.kG i hi x (hreach x hx) h1 (hB.below h9).rs (hB.below h9).rk;have hvm:=hB.rm;have ae2:=hB.gV.len;clear hreach hL hB hne;generalize bn b ml ss ms=all at *;generalize gI (fun a=>a.get i) all=L at *;refine calls_of_wp Tryz.func54 rfl ?_;have hF:=ki (args:=#[aaf (b.cells (cO p1 ml.length c1) (cO p2 ss.length c2) (cO p3 ms.length c3)),k8 jx (i:Int)]) (n:=49) (by simp) [(1,k8 jx (i:Int)),(0,aaf (b.cells (cO p1 ml.length c1) (cO p2 ss.length c2) (cO p3 ms.length c3)))] ⟨mO rfl,mO rfl,trivial⟩;rw[show Tryz.f54.ntmps=49 from rfl];generalize (⟨#[aaf (b.cells (cO p1 ml.length c1) (cO p2 ss.length c2) (cO p3 ms.length c3)),k8 jx (i:Int)]++aaz (49-(#[aaf (b.cells (cO p1 ml.length c1) (cO p2 ss.length c2) (cO p3 ms.length c3)),k8 jx (i:Int)]:Array aag).size) aaC,[]⟩:Act)=a at *;refine(fun h:∀W,aaj w.heap.size w W→aaN pO _ _ a W=>h w (WB _ _)) ?_;intro W hw;refine TQ (N:=3) rfl ?_;refine Oj ⟨[],[],[],[]⟩ (some 2) (fun B=>pv B 0) (b.cells (cO p1 ml.length c1) (cO p2 ss.length c2) (cO p3 ms.length c3)) 28 hF hF ?_;intro B2 W a G2 ho K2 hF;have afb:=aar hw.size G2;replace hw:=hw.tr ho;clear ho;rename WO=>W2;have h2:=WB W2.heap.size W2;refine qJ 1 2 0 ⟨[],[],[],[]⟩ [(4,k8 jx 0),(5,L9 false)] hF hF trivial trivial ?_;intro a W ho hF;replace h2:=h2.tr ho;clear ho;refine XD ?_;refine TQ (N:=8) rfl ?_;refine qJ 0 2 6 ⟨[],[],[(B2,(b.cells (cO p1 ml.length c1) (cO p2 ss.length c2) (cO p3 ms.length c3)))],[]⟩ [(13,aaf (b.cells (cO p1 ml.length c1) (cO p2 ss.length c2) (cO p3 ms.length c3))),(14,k8 jx (i:Int))] hF hF ⟨fun w1 hS=>⟨_,_,aL K2 (h2.tr hS)⟩,trivial⟩ trivial ?_;intro a W ho hF;replace h2:=h2.tr ho;clear ho;refine acK ⟨[],[],[],[]⟩ (some 15) (f:=58) (args:=#[aaf (b.cells (cO p1 ml.length c1) (cO p2 ss.length c2) (cO p3 ms.length c3)),k8 jx (i:Int)]) hF hF (HB _ (hw.tr h2)) ?_;rintro _ W ⟨v15,rfl,VD,hb⟩;obtain⟨pL,cL,rfl,-⟩:=aR VD;refine⟨_,rfl,fun a hF=>?_⟩;have ho:=hb;replace h2:=h2.tr ho;clear ho;replace hw:=hw.tr h2;rename WO=>W15;have h15:=WB W15.heap.size W15;refine qJ 3 5 0 ⟨[],[],[],[]⟩ [(6,cO pL L.length cL),(7,k8 jx 0)] hF hF trivial trivial ?_;intro a W ho hF;replace h15:=h15.tr ho;clear ho;refine XD ?_;refine wp_seq ?_;refine jM ⟨[(20,false)],[(5,L9 false)],[],[]⟩ [(24,L9 false)] hF hF trivial ⟨fun w1 hS _=>ge (congrArg aav (show decide ((L.length:Int)>3)=false from decide_eq_false (by omega))),trivial⟩ ?_;intro a W ho hF;replace h15:=h15.tr ho;clear ho;refine wp_cond (t:=false) (hF.g 0 rfl) ?_;show aaN pO _ _ _ _;replace hF:=hF.tl;refine wp_skip ?_;show aaN pO _ _ _ _;refine jM ⟨[],[],[],[]⟩ [(8,k8 jx 0)] hF hF trivial trivial ?_;intro a W ho hF;replace h15:=h15.tr ho;clear ho;refine wp_seq ?_;refine jM ⟨[],[],[],[]⟩ [(9,k8 jx 0)] hF hF trivial trivial ?_;intro a W ho hF;replace h15:=h15.tr ho;clear ho;refine wp_block ?_;replace hF:=(((hF.del 15).del 14).del 13).del 0;simp only[m5,jk,aac,reduceIte] at hF;replace hw:=hw.tr h15;replace h2:=h2.tr h15;rename WO=>WQ;have hQ:=WB WQ.heap.size WQ;refine wp_loop (fun a W=>∃k:Nat,k≤L.length∧iV 49 a [(9,k8 jx (k:Int)),(8,k8 jx ((aay i all L k:Nat):Int)),(7,k8 jx 0),(6,cO pL L.length cL),(5,L9 false),(4,k8 jx 0),(2,.pointer (some ⟨B2,0,none⟩)),(1,k8 jx (i:Int))]∧aaj WQ.heap.size WQ W) (fun a _=>L.length-(intOf (a.eval (aal 9))).toNat) ⟨0,Nat.zero_le _,⟨hF.size,hF.defers,hF.base⟩,hQ⟩ ?_;clear hF hQ;rintro a W ⟨k,hkL,hF,hQ⟩;have hk9:a.eval (aal 9)=k8 jx (k:Int):=(hF.g 0 rfl)
 refine wp_seq ?_;refine jM ⟨[],[],[],[]⟩ [(28,L9 (decide ((k:Int)<(L.length:Int))))] hF hF trivial trivial ?_;intro a W ho hF;replace hQ:=hQ.tr ho;clear ho;refine wp_cond_split (t:=(decide ((k:Int)<(L.length:Int)))) (hF.g 0 rfl) (fun Zf=>?_) (fun Zf=>?_)
 ·skip
  replace hF:=hF.tl;have hlt:k<L.length:=by simpa using Zf
  refine wp_skip ?_;show aaN pO _ _ _ _;refine wp_seq ?_;refine wp_block ?_;obtain⟨x,hx⟩:∃x,L[k]=x:=⟨_,rfl⟩
  have SQ:x∈L:=hx▸aaB hlt;obtain⟨D,hD⟩:∃D,cnt i all x=D:=⟨_,rfl⟩
  obtain⟨g,off,rfl,hcell⟩:∃g off,pL=some ⟨g,off,none⟩∧∀w9,aaj W15.heap.size W15 w9→w9.cell? ⟨g,off+k,none⟩=some (k8 jx x):=by
   rcases VD with⟨_,h0,_⟩|⟨g,off,cap,h0,_,hg,h4⟩
   ·omega
   ·cases h0;exact⟨g,off,rfl,fun w9 h9=>(h9.cell (p:=⟨g,off+k,none⟩) hg).trans (h4 k _ (by rw[List.getElem?_map,aau hlt,hx];rfl))⟩
  refine OS (by kernel_rfl) [pV (aaf (b.cells (cO p1 ml.length c1) (cO p2 ss.length c2) (cO p3 ms.length c3))),pV (k8 jx (i:Int)),pV (cO (some ⟨g,off,none⟩) L.length cL),pV (k8 jx (k:Int)),pV (.pointer (some ⟨g,off+k,none⟩)),pV (k8 jx x),pV (aaf #[k8 jx x,k8 jx x]),fun v _ w9=>∃u,v=aaf (b.cells u (cO p2 ss.length c2) (cO p3 ms.length c3))∧Reads w9 u ml.length (fF (aax ml i x x)),pV (aat #[k8 jx (D:Int),k8 jx 0]),pV (aat #[k8 jx (D:Int),k8 jx 0]),pV (k8 jx (D:Int)),pV (k8 jx 0),pV (k8 jx (D:Int)),pV (k8 jx 0)] _ (by kernel_rfl) hF.size hF.base ?_ ?_ ?_
  ·refine⟨sV,sV,sV,sV,sV,sV,sV,?_,sV,sV,sV,sV,sV,sV,trivial⟩;rintro v ds w1 w2 hS ⟨u,h1,h2⟩ hb;exact⟨u,h1,h2.below hb⟩
  ·refine⟨?_,?_,?_,?_,?_,?_,?_,?_,?_,?_,?_,?_,?_,?_,trivial⟩<;>rintro ev w1 hS hc hg hf ⟨b9,-,-,b6,-,-,b2,b1,-⟩ hd
   ·clear hd;have mN:=aL K2 (h2.tr (hQ.tr hS));exact Il 28 rfl b2 mN Tryz.underlying28 rfl (by kernel_rfl) rfl
   ·clear hd;exact tV
   ·clear hd;exact tV
   ·clear hd;exact tV
   ·have d2:ev (aal 34)=_:=hd.1 rfl;have d3:ev (aal 35)=_:=hd.2.1 rfl;clear hd;have E7:¬(L.length≤k):=by omega
    exact tV
   ·have d4:ev (aal 36)=_:=hd.1 rfl;clear hd;have z:=hcell w1 (h15.tr (hQ.tr hS));exact tV
   ·have d5:ev (aal 37)=_:=hd.1 rfl;clear hd;refine yc (CC x w1) ?_ (fun _=>rfl);go_simp
   ·have d0:ev (aal 32)=_:=hd.1 rfl;have d1:ev (aal 33)=_:=hd.2.1 rfl;have d6:ev (aal 38)=_:=hd.2.2.1 rfl;clear hd;refine Lag.Yields.call (f:=92) (args:=#[aaf (b.cells (cO p1 ml.length c1) (cO p2 ss.length c2) (cO p3 ms.length c3)),k8 jx (i:Int),aaf #[k8 jx x,k8 jx x]]) ?_ (ab3 b p1 p2 p3 c1 _ c2 _ c3 ml (by omega) i hi x x w1 (hvm.below (hw.tr (hQ.tr hS)))) ?_
    ·go_simp
    ·rintro e w2 ⟨u,rfl,h1,hb⟩;exact⟨_,rfl,⟨u,rfl,h1⟩,.inl hb⟩
   ·obtain⟨u,e39,h4⟩:=hd.1 rfl;replace e39:ev (aal 39)=_:=e39;clear hd;have h:=HK w1 (hw.tr (hQ.tr hS)) x SQ u h4;rw[hD] at h;refine yc h ?_ (fun _=>rfl);go_simp
   ·have d:ev (aal 40)=_:=hd.1 rfl;clear hd;exact tV
   ·have d:ev (aal 31)=_:=hd.1 rfl;clear hd;exact tV
   ·have d:ev (aal 31)=_:=hd.1 rfl;clear hd;exact tV
   ·have d:ev (aal 41)=_:=hd.1 rfl;clear hd;exact tV
   ·have d:ev (aal 42)=_:=hd.1 rfl;clear hd;exact tV
  intro a W hR;have ho:=hR.s;replace hF:=((hR.fr hF (by kernel_rfl)).cons (t:=10) (hR.val 12 (by decide))).cons (t:=11) (hR.val 13 (by decide));clear hR;replace hQ:=hQ.tr ho;clear ho;refine wp_seq ?_;refine jM ⟨[],[],[],[]⟩ [(44,L9 false)] hF hF trivial trivial ?_;intro a W ho hF;replace hQ:=hQ.tr ho;clear ho;refine wp_cond (t:=false) (hF.g 0 rfl) ?_;show aaN pO _ _ _ _;replace hF:=hF.tl;refine wp_skip ?_;show aaN pO _ _ _ _;have qA:=hF;replace hF:=hF.del 8;simp only[m5,jk,aac,reduceIte] at hF;refine OT ⟨[],[(2,k8 jx ((max (aay i all L k) D:Nat):Int))],[],[]⟩ [(8,k8 jx ((max (aay i all L k) D:Nat):Int))] qA hF trivial ⟨fun w1 hS _=>gs (Builtin.max_ #[3,3] 3 #[k8 jx ((aay i all L k:Nat):Int),k8 jx ((D:Nat):Int)]) (ade _ _ w1),trivial⟩ ?_;intro a W ho hF;clear qA;replace hQ:=hQ.tr ho;clear ho;show aaN pO _ _ _ _;have qA:=hF;replace hF:=hF.del 9;simp only[m5,jk,aac,reduceIte] at hF;refine OT ⟨[],[(1,k8 jx ((k:Int)+1))],[],[]⟩ [(9,k8 jx ((k:Int)+1))] qA hF trivial ⟨fun w1 hS _=>ge (congrArg (aaq jx) (show IntKind.i64.wrap ((k:Int)+1)=((k:Int)+1) by rw[IntKind.wrap_i64];omega)),trivial⟩ ?_;intro a W ho hF;clear qA;replace hQ:=hQ.tr ho;clear ho
  have hmk:aay i all L (k+1)=max (aay i all L k) D:=by
   show max (aay i all L k) (cnt i all (L.getD k 0))=_;rw[List.getD_eq_getElem?_getD,aau hlt,Option.getD_some,hx,hD]
  rw[←hmk] at hF;refine⟨⟨k+1,by omega,⟨hF.size,hF.defers,(by obtain⟨b9,b8,-,-,b7,b6,b5,b4,b2,b1,-⟩:=hF.base;exact⟨b9,b8,b7,b6,b5,b4,b2,b1,trivial⟩)⟩,hQ⟩,?_⟩;rw[show a.eval (aal 9)=k8 jx ((k:Int)+1) from(hF.g 0 rfl)];simp only[hk9];simp[intOf];omega
 ·skip
  replace hF:=hF.tl;refine wp_exit ?_;obtain rfl:k=L.length:=by simp at Zf;omega
  show aaN pO _ _ _ _;rw[hmw] at hF;show aaN pO _ _ _ _;replace hF:=(hF.del 5).del 4;simp only[m5,jk,aac,reduceIte] at hF;refine jM ⟨[],[],[],[]⟩ [(4,k8 jx ((tN i all all.length:Nat):Int)),(5,L9 true)] hF hF trivial trivial ?_;intro a W ho hF;replace hQ:=hQ.tr ho;clear ho;refine wp_ret ?_;show bodyPost pO Tryz.f54 (fun e w'=>e=aas (aat #[k8 jx ((tN i all all.length:Nat):Int),L9 true])∧aaj w.heap.size w w') Exit.ret a W;refine bodyPost_ret (results_tmp2 rfl _ _ _) hF.defers ⟨?_,(hw.tr hQ)⟩;rw[show a.tmps.getD 4 aaC=_ from(hF.g 1 rfl),show a.tmps.getD 5 aaC=_ from(hF.g 0 rfl)]
end Go.Proofs.YtffladgmkiimjaaGreatDoor
namespace Go.Proofs.YtffladgmkiimjaaGreatDoor
open Go.RowKit Go.Lag
open Go.Conc
theorem gn{P:Program}{kv i:Nat}{s:Sem Next}{w:WO}{v:aag}(h:lV P s w v)(hk:Nat.beq i kv=false:=by rfl):GX P kv i s w v:=by
 unfold GX;rw[hk];exact h
theorem ac6(a n:Nat)(hn:0<n)(w:WO):(Go.binOp .rem 3 (k8 jx (a:Int)) (k8 jx (n:Int))).run pO w=.ok (k8 jx ((a % n:Nat):Int)) w:=by
 have h1:¬((n:Int)=0):=by omega
 have h2:(a:Int).tmod (n:Int)=((a % n:Nat):Int):=by rw[Int.tmod_eq_emod_of_nonneg (by omega)];rfl
 rw[←h2];go_simp;omega
theorem ab8(b:BB)(p1 p2 p3:Option Addr)(c1 c2 c3:Nat)(ml:List Mn)(ss:List Int)(ms:List Mk)(qao:Nat)(hdn:qao<256)(hce:bn b ml ss ms=[]){W0:WO}(hL:Laid W0)(hv:Reads W0 (cO p1 ml.length c1) ml.length (fF ml))(hu:Reads W0 (cO p2 ss.length c2) ss.length (ss.map (aaq jx)))(hk:Reads W0 (cO p3 ms.length c3) ms.length (dm ms)):iQ pO 10 #[aaf (b.cells (cO p1 ml.length c1) (cO p2 ss.length c2) (cO p3 ms.length c3)),k8 .u8 (qao:Int)] W0 fun v W'=>v=L9 true∧Old W0 W':=by
 refine kD quiet Tryz.func10 rfl ?hR ?body
 case hR=>
  rintro v W' τ d ⟨h1,h2⟩;exact⟨h1,vG h2⟩
 have hF:=ki (args:=#[aaf (b.cells (cO p1 ml.length c1) (cO p2 ss.length c2) (cO p3 ms.length c3)),k8 .u8 (qao:Int)]) (n:=131) (by simp) [(1,k8 .u8 (qao:Int)),(0,aaf (b.cells (cO p1 ml.length c1) (cO p2 ss.length c2) (cO p3 ms.length c3)))] ⟨mO rfl,mO rfl,trivial⟩;rw[show Tryz.f10.ntmps=131 from rfl];generalize (⟨#[aaf (b.cells (cO p1 ml.length c1) (cO p2 ss.length c2) (cO p3 ms.length c3)),k8 .u8 (qao:Int)]++aaz (131-(#[aaf (b.cells (cO p1 ml.length c1) (cO p2 ss.length c2) (cO p3 ms.length c3)),k8 .u8 (qao:Int)]:Array aag).size) aaC,[]⟩:Act)=a at *;refine(fun h:∀W,Old W0 W→mP pO _ (Gj pO Tryz.f10 fun v W'=>v=L9 true∧Old W0 W') a W=>h W0 (Old.refl W0)) ?_;intro W h0;refine mI quiet (N:=2) rfl ?_;refine ou quiet ⟨[],[],[],[]⟩ (some 2) (fun B=>pv B 0) (b.cells (cO p1 ml.length c1) (cO p2 ss.length c2) (cO p3 ms.length c3)) 28 hF hF ?_;intro B2 W a G2 ho K2 hF;have agl:=aar h0.size G2;replace h0:=h0.trans ho;clear ho;rename WO=>W2;have h2:=Old.refl W2;refine dF quiet 1 1 0 ⟨[],[],[],[]⟩ [(4,L9 false)] hF hF trivial trivial ?_;intro a W ho hF;replace h2:=h2.trans ho;clear ho;refine mH quiet a8 ?_;refine jC quiet ?_;refine I1 quiet (dD a8) ⟨[],[(1,L9 (KN b ml ss ms))],[(B2,(b.cells (cO p1 ml.length c1) (cO p2 ss.length c2) (cO p3 ms.length c3)))],[]⟩ [(15,L9 (!(KN b ml ss ms)))] hF hF ⟨fun w1 hS=>⟨_,_,bK K2 (h2.trans hS)⟩,trivial⟩ ⟨fun w1 hS _=>gc (args:=#[aaf (b.cells (cO p1 ml.length c1) (cO p2 ss.length c2) (cO p3 ms.length c3))]) (Wb b _ _ _ _ _ _ ml ss ms w1 (hv.old (h0.trans (h2.trans hS))) (hu.old (h0.trans (h2.trans hS))) (hk.old (h0.trans (h2.trans hS)))),trivial⟩ ?_;intro a W ho hF;replace h2:=h2.trans ho;clear ho;refine zR quiet (t:=(!(KN b ml ss ms))) (hF.g 0 rfl) (fun KB=>?_) (fun KB=>?_)
 ·skip
  replace hF:=hF.tl;replace hF:=hF.tl;refine ckX quiet (dD a8) 0 ⟨[],[(0,L9 true)],[],[]⟩ rfl [(4,L9 true)] hF hF trivial ⟨fun w1 hS _=>gv (tH (hL.old (h0.trans (h2.trans hS)))) (by kernel_rfl),trivial⟩ ?_;intro a W ho hF;replace h2:=h2.trans ho;clear ho;exact ko quiet (dD a8) fun τ d=>wp_ret ⟨hF.defers,_,results_tmp rfl _ _ _,(hF.g 0 rfl),mU τ d (h0.trans h2)⟩
 ·skip
  replace hF:=hF.tl;have Ta:KN b ml ss ms=true:=by simpa using KB
  obtain⟨cS,S6,Oy,hmk⟩:=ZH Ta;replace h0:=h0.trans h2;rename WO=>WC;have hC:=Old.refl WC;have hBk:∀w9,Old WC w9→cH b (cO p1 ml.length c1) (cO p2 ss.length c2) (cO p3 ms.length c3) ml ss ms w9:=fun w9 h9=>⟨cS,S6,Oy,hmk,hv.old (h0.trans h9),hu.old (h0.trans h9),hk.old (h0.trans h9)⟩
  have HN:∀w9,Old WC w9→_:=fun w9 h9=>zI b _ _ _ ml ss ms w9 (hL.old (h0.trans h9)) (hBk w9 h9);have HA:∀w9,Old WC w9→_:=fun w9 h9=>acL b _ _ _ _ _ _ ml ss ms w9 (hL.old (h0.trans h9)) (hBk w9 h9) hce;rw[hce] at HN;show mP pO Code.skip _ _ _;refine n9 quiet (dD a8) fun τ0 δ0=>?_;have ho:=jD WC τ0 δ0;replace hC:=hC.trans ho;clear ho;generalize dr WC τ0 δ0=W2 at *;rename WO=>W;show mP pO _ _ _ _;refine I1 quiet a8 ⟨[],[(1,aat #[k8 jx 0,k8 jx 0,k8 jx 9])],[(B2,(b.cells (cO p1 ml.length c1) (cO p2 ss.length c2) (cO p3 ms.length c3)))],[]⟩ [(5,k8 jx 0),(6,k8 jx 0),(7,k8 jx 9)] hF hF ⟨fun w1 hS=>⟨_,_,bK K2 (h2.trans (hC.trans hS))⟩,trivial⟩ ⟨fun w1 hS _=>gc (HA w1 (hC.trans hS)),trivial⟩ ?_;intro a W ho hF;replace hC:=hC.trans ho;clear ho;refine I1 quiet a8 ⟨[],[(1,aat #[k8 jx 0,k8 jx 0])],[(B2,(b.cells (cO p1 ml.length c1) (cO p2 ss.length c2) (cO p3 ms.length c3)))],[]⟩ [(8,k8 jx 0),(9,k8 jx 0)] hF hF ⟨fun w1 hS=>⟨_,_,bK K2 (h2.trans (hC.trans hS))⟩,trivial⟩ ⟨fun w1 hS _=>gc (HN w1 (hC.trans hS)),trivial⟩ ?_;intro a W ho hF;replace hC:=hC.trans ho;clear ho;refine jC quiet ?_;refine I1 quiet (dD a8) ⟨[(30,false)],[(7,L9 false)],[],[]⟩ [(36,L9 false)] hF hF trivial ⟨fun w1 hS _=>ge (congrArg aav (show(!(false==false))=false from rfl)),trivial⟩ ?_;intro a W ho hF;replace hC:=hC.trans ho;clear ho;refine oa quiet (t:=false) (hF.g 0 rfl) ?_;show mP pO _ _ _ _;replace hF:=hF.tl;show mP pO Code.skip _ _ _;refine n9 quiet (dD a8) fun τ0 δ0=>?_;have ho:=jD W τ0 δ0;replace hC:=hC.trans ho;clear ho;generalize dr W τ0 δ0=W2 at *;rename WO=>W;show mP pO _ _ _ _;refine jC quiet ?_;refine I1 quiet (dD a8) ⟨[],[],[],[]⟩ [(38,L9 true)] hF hF trivial trivial ?_;intro a W ho hF;replace hC:=hC.trans ho;clear ho;refine oa quiet (t:=true) (hF.g 0 rfl) ?_;show mP pO _ _ _ _;replace hF:=hF.tl;replace hF:=hF.del 4;simp only[m5,jk,aac,reduceIte] at hF;refine ckX quiet (dD a8) 11 ⟨[(41,true),(45,true),(49,true)],[(11,L9 true)],[],[]⟩ rfl [(4,L9 true)] hF hF trivial ⟨fun w1 hS _=>gv (tH (hL.old (h0.trans (hC.trans hS)))) (by kernel_rfl),trivial⟩ ?_;intro a W ho hF;replace hC:=hC.trans ho;clear ho;exact ko quiet (dD a8) fun τ d=>wp_ret ⟨hF.defers,_,results_tmp rfl _ _ _,(hF.g 0 rfl),mU τ d (h0.trans hC)⟩
theorem ab4(b:BB)(p1 p2 p3:Option Addr)(c1 c2 c3:Nat)(ml:List Mn)(ss:List Int)(ms:List Mk)(qao:Nat)(hdn:qao<256)(hne:bn b ml ss ms≠[]){W0:WO}(hL:Laid W0)(hv:Reads W0 (cO p1 ml.length c1) ml.length (fF ml))(hu:Reads W0 (cO p2 ss.length c2) ss.length (ss.map (aaq jx)))(hk:Reads W0 (cO p3 ms.length c3) ms.length (dm ms)):iQ pO 10 #[aaf (b.cells (cO p1 ml.length c1) (cO p2 ss.length c2) (cO p3 ms.length c3)),k8 .u8 (qao:Int)] W0 fun v W'=>v=L9 true∧Old W0 W':=by
 refine kD quiet Tryz.func10 rfl ?hR ?body
 case hR=>
  rintro v W' τ d ⟨h1,h2⟩;exact⟨h1,vG h2⟩
 have hF:=ki (args:=#[aaf (b.cells (cO p1 ml.length c1) (cO p2 ss.length c2) (cO p3 ms.length c3)),k8 .u8 (qao:Int)]) (n:=131) (by simp) [(1,k8 .u8 (qao:Int)),(0,aaf (b.cells (cO p1 ml.length c1) (cO p2 ss.length c2) (cO p3 ms.length c3)))] ⟨mO rfl,mO rfl,trivial⟩;rw[show Tryz.f10.ntmps=131 from rfl];generalize (⟨#[aaf (b.cells (cO p1 ml.length c1) (cO p2 ss.length c2) (cO p3 ms.length c3)),k8 .u8 (qao:Int)]++aaz (131-(#[aaf (b.cells (cO p1 ml.length c1) (cO p2 ss.length c2) (cO p3 ms.length c3)),k8 .u8 (qao:Int)]:Array aag).size) aaC,[]⟩:Act)=a at *;refine(fun h:∀W,Old W0 W→mP pO _ (Gj pO Tryz.f10 fun v W'=>v=L9 true∧Old W0 W') a W=>h W0 (Old.refl W0)) ?_;intro W h0;refine mI quiet (N:=2) rfl ?_;refine ou quiet ⟨[],[],[],[]⟩ (some 2) (fun B=>pv B 0) (b.cells (cO p1 ml.length c1) (cO p2 ss.length c2) (cO p3 ms.length c3)) 28 hF hF ?_;intro B2 W a G2 ho K2 hF;have agl:=aar h0.size G2;replace h0:=h0.trans ho;clear ho;rename WO=>W2;have h2:=Old.refl W2;refine dF quiet 1 1 0 ⟨[],[],[],[]⟩ [(4,L9 false)] hF hF trivial trivial ?_;intro a W ho hF;replace h2:=h2.trans ho;clear ho;refine mH quiet a8 ?_;refine jC quiet ?_;refine I1 quiet (dD a8) ⟨[],[(1,L9 (KN b ml ss ms))],[(B2,(b.cells (cO p1 ml.length c1) (cO p2 ss.length c2) (cO p3 ms.length c3)))],[]⟩ [(15,L9 (!(KN b ml ss ms)))] hF hF ⟨fun w1 hS=>⟨_,_,bK K2 (h2.trans hS)⟩,trivial⟩ ⟨fun w1 hS _=>gc (args:=#[aaf (b.cells (cO p1 ml.length c1) (cO p2 ss.length c2) (cO p3 ms.length c3))]) (Wb b _ _ _ _ _ _ ml ss ms w1 (hv.old (h0.trans (h2.trans hS))) (hu.old (h0.trans (h2.trans hS))) (hk.old (h0.trans (h2.trans hS)))),trivial⟩ ?_;intro a W ho hF;replace h2:=h2.trans ho;clear ho;refine zR quiet (t:=(!(KN b ml ss ms))) (hF.g 0 rfl) (fun KB=>?_) (fun KB=>?_)
 ·skip
  replace hF:=hF.tl;replace hF:=hF.tl;refine ckX quiet (dD a8) 0 ⟨[],[(0,L9 true)],[],[]⟩ rfl [(4,L9 true)] hF hF trivial ⟨fun w1 hS _=>gv (tH (hL.old (h0.trans (h2.trans hS)))) (by kernel_rfl),trivial⟩ ?_;intro a W ho hF;replace h2:=h2.trans ho;clear ho;exact ko quiet (dD a8) fun τ d=>wp_ret ⟨hF.defers,_,results_tmp rfl _ _ _,(hF.g 0 rfl),mU τ d (h0.trans h2)⟩
 ·skip
  replace hF:=hF.tl;have Ta:KN b ml ss ms=true:=by simpa using KB
  obtain⟨cS,S6,Oy,hmk⟩:=ZH Ta;replace h0:=h0.trans h2;rename WO=>WC;have hC:=Old.refl WC;have hBk:∀w9,Old WC w9→cH b (cO p1 ml.length c1) (cO p2 ss.length c2) (cO p3 ms.length c3) ml ss ms w9:=fun w9 h9=>⟨cS,S6,Oy,hmk,hv.old (h0.trans h9),hu.old (h0.trans h9),hk.old (h0.trans h9)⟩
  have HN:∀w9,Old WC w9→_:=fun w9 h9=>zI b _ _ _ ml ss ms w9 (hL.old (h0.trans h9)) (hBk w9 h9);have HA:∀w9,Old WC w9→_:=fun w9 h9=>aan b _ _ _ ml ss ms w9 (hL.old (h0.trans h9)) (hBk w9 h9) hne;have HLv:∀i,i<ml.length→∀w9,Old WC w9→_:=fun i hi w9 h9=>abY b _ _ _ _ _ _ ml ss ms i hi w9 (hL.old (h0.trans h9)) (hBk w9 h9) hne;have H9:=aaW (bn b ml ss ms) ml.length;have V4:0<(bn b ml ss ms).length:=List.length_pos_iff.2 hne;have hN1:=jq ss ms cS S6;have hl3:=S6.len;generalize (rb (bn b ml ss ms) ml.length).1=M at *;generalize (rb (bn b ml ss ms) ml.length).2=Z at *;clear hne;generalize bn b ml ss ms=all at *;obtain⟨Hle,Hno,Hso,Hal⟩:=H9;generalize all.length=N at *
  have HM : -1≤M∧M≤(ml.length:Int)-1:=by
   by_cases h:M<0
   ·have:=Hno h;omega
   ·have:=Hso (by omega);omega
  have HBt:∀w9,_:=fun w9=>fp M (-1) ((ml.length:Int)-1) w9;rw[show aQ M (-1) ((ml.length:Int)-1)=true by unfold aQ;simp;omega] at HBt;have H0:decide ((N:Int)>0)=true:=decide_eq_true (by omega);have H2:decide ((Z:Int)>(N:Int))=false:=decide_eq_false (by omega)
  have H1:(!((decide (M<0))==((Z:Int)==(N:Int))))=false:=by
   by_cases h:M<0
   ·have:=(Hno h).2;simp[h,this]
   ·have:=(Hso (by omega)).2.1;simp[h];omega
  show mP pO Code.skip _ _ _;refine n9 quiet (dD a8) fun τ0 δ0=>?_;have ho:=jD WC τ0 δ0;replace hC:=hC.trans ho;clear ho;generalize dr WC τ0 δ0=W2 at *;rename WO=>W;show mP pO _ _ _ _;refine I1 quiet a8 ⟨[],[(1,aat #[k8 jx M,k8 jx (Z:Int),k8 jx 0])],[(B2,(b.cells (cO p1 ml.length c1) (cO p2 ss.length c2) (cO p3 ms.length c3)))],[]⟩ [(5,k8 jx M),(6,k8 jx (Z:Int)),(7,k8 jx 0)] hF hF ⟨fun w1 hS=>⟨_,_,bK K2 (h2.trans (hC.trans hS))⟩,trivial⟩ ⟨fun w1 hS _=>gc (HA w1 (hC.trans hS)),trivial⟩ ?_;intro a W ho hF;replace hC:=hC.trans ho;clear ho;refine I1 quiet a8 ⟨[],[(1,aat #[k8 jx (N:Int),k8 jx 0])],[(B2,(b.cells (cO p1 ml.length c1) (cO p2 ss.length c2) (cO p3 ms.length c3)))],[]⟩ [(8,k8 jx (N:Int)),(9,k8 jx 0)] hF hF ⟨fun w1 hS=>⟨_,_,bK K2 (h2.trans (hC.trans hS))⟩,trivial⟩ ⟨fun w1 hS _=>gc (HN w1 (hC.trans hS)),trivial⟩ ?_;intro a W ho hF;replace hC:=hC.trans ho;clear ho;refine jC quiet ?_;refine I1 quiet (dD a8) ⟨[(30,false)],[(6,L9 true),(7,L9 false)],[],[]⟩ [(36,L9 false)] hF hF trivial ⟨fun w1 hS _=>ge (congrArg aav (H0)),fun w1 hS _=>ge (congrArg aav (show(!(true==true))=false from rfl)),trivial⟩ ?_;intro a W ho hF;replace hC:=hC.trans ho;clear ho;refine oa quiet (t:=false) (hF.g 0 rfl) ?_;show mP pO _ _ _ _;replace hF:=hF.tl;show mP pO Code.skip _ _ _;refine n9 quiet (dD a8) fun τ0 δ0=>?_;have ho:=jD W τ0 δ0;replace hC:=hC.trans ho;clear ho;generalize dr W τ0 δ0=W2 at *;rename WO=>W;show mP pO _ _ _ _;refine jC quiet ?_;refine I1 quiet (dD a8) ⟨[],[],[],[]⟩ [(38,L9 false)] hF hF trivial trivial ?_;intro a W ho hF;replace hC:=hC.trans ho;clear ho;refine oa quiet (t:=false) (hF.g 0 rfl) ?_;show mP pO _ _ _ _;replace hF:=hF.tl;show mP pO Code.skip _ _ _;refine n9 quiet (dD a8) fun τ0 δ0=>?_;have ho:=jD W τ0 δ0;replace hC:=hC.trans ho;clear ho;generalize dr W τ0 δ0=W2 at *;rename WO=>W;show mP pO _ _ _ _;refine jC quiet ?_;refine I1 quiet (dD a8) ⟨[(59,false),(67,false)],[(4,k8 jx (ml.length-1)),(5,L9 true),(13,L9 false),(18,L9 false)],[(B2,(b.cells (cO p1 ml.length c1) (cO p2 ss.length c2) (cO p3 ms.length c3)))],[]⟩ [(71,L9 false)] hF hF ⟨fun w1 hS=>⟨_,_,bK K2 (h2.trans (hC.trans hS))⟩,trivial⟩ ⟨fun w1 hS _=>ge (congrArg (aaq jx) (show IntKind.i64.wrap (ml.length-1)=(ml.length-1) by rw[IntKind.wrap_i64];omega)),fun w1 hS _=>gc (HBt w1),fun w1 hS _=>ge (congrArg aav (H1)),fun w1 hS _=>ge (congrArg aav (H2)),trivial⟩ ?_;intro a W ho hF;replace hC:=hC.trans ho;clear ho;refine oa quiet (t:=false) (hF.g 0 rfl) ?_;show mP pO _ _ _ _;replace hF:=hF.tl;show mP pO Code.skip _ _ _;refine n9 quiet (dD a8) fun τ0 δ0=>?_;have ho:=jD W τ0 δ0;replace hC:=hC.trans ho;clear ho;generalize dr W τ0 δ0=W2 at *;rename WO=>W;show mP pO _ _ _ _;refine jC quiet ?_;refine I1 quiet (dD a8) ⟨[],[],[(B2,(b.cells (cO p1 ml.length c1) (cO p2 ss.length c2) (cO p3 ms.length c3)))],[]⟩ [(75,L9 ((ml.length:Int)==0))] hF hF ⟨fun w1 hS=>⟨_,_,bK K2 (h2.trans (hC.trans hS))⟩,trivial⟩ trivial ?_;intro a W ho hF;replace hC:=hC.trans ho;clear ho;refine zR quiet (t:=((ml.length:Int)==0)) (hF.g 0 rfl) (fun adf=>?_) (fun adf=>?_)
  ·skip
   replace hF:=hF.tl;replace hF:=hF.del 4;simp only[m5,jk,aac,reduceIte] at hF;refine ckX quiet (dD a8) 0 ⟨[],[(0,L9 true)],[],[]⟩ rfl [(4,L9 true)] hF hF trivial ⟨fun w1 hS _=>gv (tH (hL.old (h0.trans (hC.trans hS)))) (by kernel_rfl),trivial⟩ ?_;intro a W ho hF;replace hC:=hC.trans ho;clear ho;exact ko quiet (dD a8) fun τ d=>wp_ret ⟨hF.defers,_,results_tmp rfl _ _ _,(hF.g 0 rfl),mU τ d (h0.trans hC)⟩
  ·skip
   replace hF:=hF.tl;show mP pO Code.skip _ _ _;refine n9 quiet (dD a8) fun τ0 δ0=>?_;have ho:=jD W τ0 δ0;replace hC:=hC.trans ho;clear ho;generalize dr W τ0 δ0=W2 at *;rename WO=>W;show mP pO _ _ _ _
   have adu:0<ml.length:=by
    rcases Nat.eq_zero_or_pos ml.length with h|h
    ·rw[h] at adf;simp at adf
    ·exact h
   obtain⟨i,adQ,hi⟩:∃i:Nat,(∀w1,(Go.binOp .rem 3 (k8 jx (qao:Int)) (k8 jx (ml.length:Int))).run pO w1=.ok (k8 jx (i:Int)) w1)∧i<ml.length:=⟨qao % ml.length,fun w1=>ac6 qao ml.length adu w1,Nat.mod_lt _ adu⟩
   obtain⟨D,hD⟩:∃D,tN i all N=D:=⟨_,rfl⟩
   have HLi:=HLv i hi;rw[hD] at HLi;have H3:decide ((D:Int)<(Z:Int))=false:=decide_eq_false (by have:=Hal i hi;omega);refine I1 quiet a8 ⟨[],[(1,k8 jx (qao:Int)),(5,k8 jx (i:Int))],[(B2,(b.cells (cO p1 ml.length c1) (cO p2 ss.length c2) (cO p3 ms.length c3)))],[]⟩ [(10,k8 jx (i:Int))] hF hF ⟨fun w1 hS=>⟨_,_,bK K2 (h2.trans (hC.trans hS))⟩,trivial⟩ ⟨fun w1 hS _=>ge (congrArg (aaq jx) (show IntKind.i64.wrap (qao:Int)=(qao:Int) from by rw[IntKind.wrap_i64];omega)),fun w1 hS _=>gs (Go.binOp .rem 3 (k8 jx (qao:Int)) (k8 jx (ml.length:Int))) (adQ w1) (by kernel_rfl),trivial⟩ ?_;intro a W ho hF;replace hC:=hC.trans ho;clear ho;refine I1 quiet a8 ⟨[],[(2,aat #[k8 jx (D:Int),L9 true])],[(B2,(b.cells (cO p1 ml.length c1) (cO p2 ss.length c2) (cO p3 ms.length c3)))],[]⟩ [(11,k8 jx (D:Int)),(12,L9 true)] hF hF ⟨fun w1 hS=>⟨_,_,bK K2 (h2.trans (hC.trans hS))⟩,trivial⟩ ⟨fun w1 hS _=>gc (HLi w1 (hC.trans hS)),trivial⟩ ?_;intro a W ho hF;replace hC:=hC.trans ho;clear ho;refine jC quiet ?_;refine I1 quiet (dD a8) ⟨[(91,false),(96,false)],[(5,L9 false)],[],[]⟩ [(109,L9 ((((D:Int)==(Z:Int))&&(decide (M≥0)))&&(decide ((i:Int)<M))))] hF hF trivial ⟨fun w1 hS _=>ge (congrArg aav (H3)),trivial⟩ ?_;intro a W ho hF;replace hC:=hC.trans ho;clear ho;refine zR quiet (t:=((((D:Int)==(Z:Int))&&(decide (M≥0)))&&(decide ((i:Int)<M)))) (hF.g 0 rfl) (fun Xx=>?_) (fun Xx=>?_)
   ·skip
    replace hF:=hF.tl;exfalso;simp only[Bool.and_eq_true,decide_eq_true_eq,beq_iff_eq] at Xx;have h1:=(Hso (by omega)).2.2.2 i (by omega);omega
   ·skip
    replace hF:=hF.tl;show mP pO Code.skip _ _ _;refine n9 quiet (dD a8) fun τ0 δ0=>?_;have ho:=jD W τ0 δ0;replace hC:=hC.trans ho;clear ho;generalize dr W τ0 δ0=W2 at *;rename WO=>W;show mP pO _ _ _ _;refine jC quiet ?_;refine I1 quiet (dD a8) ⟨[],[],[],[]⟩ [(111,L9 (decide (M≥0)))] hF hF trivial trivial ?_;intro a W ho hF;replace hC:=hC.trans ho;clear ho;refine zR quiet (t:=(decide (M≥0))) (hF.g 0 rfl) (fun acD=>?_) (fun acD=>?_)
    ·skip
     replace hF:=hF.tl;have hM0:0≤M:=by simpa using acD
     have HLm:=HLv M.toNat (by have:=(Hso hM0).1;omega);rw[(Hso hM0).2.2.1,Int.toNat_of_nonneg hM0] at HLm;refine ko quiet (dD a8) fun τ1 δ1=>?_;have ho:=jD W τ1 δ1;replace hC:=hC.trans ho;clear ho;generalize dr W τ1 δ1=W2 at *;rename WO=>W;replace hF:=hF.tl.tl;refine OT ⟨[],[(2,aat #[k8 jx (Z:Int),L9 true])],[(B2,(b.cells (cO p1 ml.length c1) (cO p2 ss.length c2) (cO p3 ms.length c3)))],[]⟩ [(11,k8 jx (Z:Int)),(12,L9 true)] hF hF ⟨fun w1 hS=>⟨_,_,bK K2 (h2.trans (hC.trans (Old.of_below hS)))⟩,trivial⟩ ⟨fun w1 hS _=>gc (HLm w1 (hC.trans (Old.of_below hS))),trivial⟩ ?_;intro a W ho hF;have hb:=ho;replace ho:=Old.of_below ho;replace hC:=hC.trans ho;clear ho hb;show mP pO _ _ _ _;show mP pO _ _ _ _;replace hF:=hF.del 4;simp only[m5,jk,aac,reduceIte] at hF;refine ckX quiet a8 11 ⟨[(119,true),(122,false),(128,true)],[(3,L9 false),(7,L9 true),(11,L9 true)],[],[]⟩ rfl [(4,L9 true)] hF hF trivial ⟨fun w1 hS _=>gn (ge (congrArg aav (show decide (M<0)=false from decide_eq_false (by omega)))),fun w1 hS _=>gn (ge (congrArg aav (show((Z:Int)==(Z:Int))=true from beq_self_eq_true _))),fun w1 hS _=>gv (tH (hL.old (h0.trans (hC.trans hS)))) (by kernel_rfl),trivial⟩ ?_;intro a W ho hF;replace hC:=hC.trans ho;clear ho;exact ko quiet a8 fun τ d=>wp_ret ⟨hF.defers,_,results_tmp rfl _ _ _,(hF.g 0 rfl),mU τ d (h0.trans hC)⟩
    ·skip
     replace hF:=hF.tl;have hM0:M<0:=by simp at acD;omega
     show mP pO Code.skip _ _ _;refine n9 quiet (dD a8) fun τ0 δ0=>?_;have ho:=jD W τ0 δ0;replace hC:=hC.trans ho;clear ho;generalize dr W τ0 δ0=W2 at *;rename WO=>W;show mP pO _ _ _ _;replace hF:=hF.del 4;simp only[m5,jk,aac,reduceIte] at hF;refine ckX quiet a8 11 ⟨[(119,true),(122,true),(128,true)],[(3,L9 true),(11,L9 true)],[],[]⟩ rfl [(4,L9 true)] hF hF trivial ⟨fun w1 hS _=>gn (ge (congrArg aav (show decide (M<0)=true from decide_eq_true (by omega)))),fun w1 hS _=>gv (tH (hL.old (h0.trans (hC.trans hS)))) (by kernel_rfl),trivial⟩ ?_;intro a W ho hF;replace hC:=hC.trans ho;clear ho;exact ko quiet a8 fun τ d=>wp_ret ⟨hF.defers,_,results_tmp rfl _ _ _,(hF.g 0 rfl),mU τ d (h0.trans hC)⟩
theorem acb(b:BB)(p1 p2 p3:Option Addr)(n1 c1 n2 c2 n3 c3:Nat)(hbig:20<n1∨20<n2∨20<n3)(qao:Nat){W0:WO}(hL:Laid W0):iQ pO 10 #[aaf (b.cells (cO p1 n1 c1) (cO p2 n2 c2) (cO p3 n3 c3)),k8 .u8 (qao:Int)] W0 fun v W'=>v=L9 true∧Old W0 W':=by
 refine kD quiet Tryz.func10 rfl ?hR ?body
 case hR=>
  rintro v W' τ d ⟨h1,h2⟩;exact⟨h1,vG h2⟩
 have hF:=ki (args:=#[aaf (b.cells (cO p1 n1 c1) (cO p2 n2 c2) (cO p3 n3 c3)),k8 .u8 (qao:Int)]) (n:=131) (by simp) [(1,k8 .u8 (qao:Int)),(0,aaf (b.cells (cO p1 n1 c1) (cO p2 n2 c2) (cO p3 n3 c3)))] ⟨mO rfl,mO rfl,trivial⟩;rw[show Tryz.f10.ntmps=131 from rfl];generalize (⟨#[aaf (b.cells (cO p1 n1 c1) (cO p2 n2 c2) (cO p3 n3 c3)),k8 .u8 (qao:Int)]++aaz (131-(#[aaf (b.cells (cO p1 n1 c1) (cO p2 n2 c2) (cO p3 n3 c3)),k8 .u8 (qao:Int)]:Array aag).size) aaC,[]⟩:Act)=a at *;refine(fun h:∀W,Old W0 W→mP pO _ (Gj pO Tryz.f10 fun v W'=>v=L9 true∧Old W0 W') a W=>h W0 (Old.refl W0)) ?_;intro W h0;refine mI quiet (N:=2) rfl ?_;refine ou quiet ⟨[],[],[],[]⟩ (some 2) (fun B=>pv B 0) (b.cells (cO p1 n1 c1) (cO p2 n2 c2) (cO p3 n3 c3)) 28 hF hF ?_;intro B2 W a G2 ho K2 hF;have agl:=aar h0.size G2;replace h0:=h0.trans ho;clear ho;rename WO=>W2;have h2:=Old.refl W2;refine dF quiet 1 1 0 ⟨[],[],[],[]⟩ [(4,L9 false)] hF hF trivial trivial ?_;intro a W ho hF;replace h2:=h2.trans ho;clear ho;refine mH quiet a8 ?_;refine jC quiet ?_;refine I1 quiet (dD a8) ⟨[],[(1,L9 false)],[(B2,(b.cells (cO p1 n1 c1) (cO p2 n2 c2) (cO p3 n3 c3)))],[]⟩ [(15,L9 true)] hF hF ⟨fun w1 hS=>⟨_,_,bK K2 (h2.trans hS)⟩,trivial⟩ ⟨fun w1 hS _=>gc (Tz b p1 p2 p3 n1 c1 n2 c2 n3 c3 hbig w1),trivial⟩ ?_;intro a W ho hF;replace h2:=h2.trans ho;clear ho;refine oa quiet (t:=true) (hF.g 0 rfl) ?_;show mP pO _ _ _ _;replace hF:=hF.tl;replace hF:=hF.tl;refine ckX quiet (dD a8) 0 ⟨[],[(0,L9 true)],[],[]⟩ rfl [(4,L9 true)] hF hF trivial ⟨fun w1 hS _=>gv (tH (hL.old (h0.trans (h2.trans hS)))) (by kernel_rfl),trivial⟩ ?_;intro a W ho hF;replace h2:=h2.trans ho;clear ho;exact ko quiet (dD a8) fun τ d=>wp_ret ⟨hF.defers,_,results_tmp rfl _ _ _,(hF.g 0 rfl),mU τ d (h0.trans h2)⟩
end Go.Proofs.YtffladgmkiimjaaGreatDoor
namespace Go.Proofs.YtffladgmkiimjaaGreatDoor
open Go Go.RowKit Go.Lag Go.ChangeShapes Go.Conc
theorem aaZ(os:Os)(started:os.Started)(H:Type)(enc:TypeId × aag→H) :
  ReturnsInLeavingWide {} Tryz.checked os 10 .any (fun w args=>(Rows.bellAskedSpec.pre enc pO Tryz.f10 [] false w args∧laidMetH pO Kh w)∧sizedMet enc pO Tryz.f10 (OpenSpec.ofChange Rows.bellAskedSpec) false w args)
   (Rows.bellAskedSpec.post enc pO Tryz.f10 false true false false):=by
 refine Kf (C:=Tryz.checked) (X:=fun w _=>laidMetH pO Kh w) (fun _ _ _ hh h=>h.of_heap hh) Tryz.own started Tryz.func10
  (ChangeSpec.witness_shaped (enc:=enc) (C:=Tryz.checked) (os:=os) (X:=fun w _=>laidMetH pO Kh w) false (World.doorLaid pO 400 os) #[.agg #[.int .i64 0,.int .i64 0,.int .i64 0,.int .i64 0,.int .i64 0,.int .i64 0,.int .i64 0,.int .i64 0,.int .i64 0,.int .i64 0,.int .i64 0,.int .i64 0,.slice none 0 0,.slice none 0 0,.slice none 0 0],.int .u8 0] 8 rfl (World.shaped_of_RefB (by kernel_rfl) (by kernel_rfl)) (by kernel_rfl) (by kernel_rfl) (by kernel_rfl) (TM os _)) ?_
 intro W base args ds gs before Xf hW hL;have hval:∀(j:Nat) t v,Tryz.f10.params[j]?=some t→args[j]?=some v→Value.okWide pO W .any base t v:=Xf;have hW':=hW;obtain⟨p,q,hA0,hV,-,-,-⟩:=hW;have hA:DataW.TrodAll enc pO W 0 (fun _=>true) true Tryz.f10.params.toList args.toList ds p:=hA0;rw[Tryz.params10] at hA hval;obtain⟨v0,v1,d0,d1,p0,p1,rfl,rfl,rfl,h0,h1⟩:=trodAll_two hA;clear hA0 Xf hA;obtain⟨b,m,s,k,rfl,hm,hs,hk⟩:=Wo (hval 0 28 v0 rfl rfl);obtain⟨dz,rfl,hdz⟩:=Vt Tryz.underlying5 (hval 1 5 v1 rfl rfl);obtain⟨qao,rfl⟩:∃qao:Nat,dz=qao:=⟨dz.toNat,by have:=hdz.1;simp[IntKind.min,IntKind.signed] at this;omega⟩
 have hdn:qao<256:=by have:=hdz.2;simp[IntKind.max,IntKind.signed,IntKind.bits] at this;omega
 have hla:=Vh hL;obtain⟨q1,q2,q3,n1,c1,n2,c2,n3,c3,rfl,rfl,rfl,hl⟩:=SC h0 hm hs hk
 obtain⟨M,last,o,w',t',r1,r2,r3,r4⟩:=Df quiet (f:=10) (args:=#[.agg (b.cells (.slice q1 n1 c1) (.slice q2 n2 c2) (.slice q3 n3 c3)),.int .u8 (qao:Int)]) (v0:=.bool true) (by kernel_rfl) W fun Wk hsz lS=>by
  rcases hl with hbig|⟨ml,ss,ms,rfl,rfl,rfl,a1,a2,a3⟩
  ·exact acb b _ _ _ _ _ _ _ _ _ hbig qao (hla.kill hsz lS)
  ·by_cases hce:bn b ml ss ms=[]
   ·exact ab8 b _ _ _ _ _ _ ml ss ms qao hdn hce (hla.kill hsz lS) (Reads.kill a1 hsz lS) (Reads.kill a2 hsz lS) (Reads.kill a3 hsz lS)
   ·exact ab4 b _ _ _ _ _ _ ml ss ms qao hdn hce (hla.kill hsz lS) (Reads.kill a1 hsz lS) (Reads.kill a2 hsz lS) (Reads.kill a3 hsz lS)
 refine⟨M,last,o,w',t',r1,r2,r3,r4.mono ?_⟩;rintro v ⟨rfl,hb⟩;refine RO (tb:=4) Tryz.laidOut rfl (fun t ht=>?_) (by kernel_rfl) Tryz.underlying4 hW' (fun ZO hl=>?_) ?_ hb
 ·rw[Tryz.params10] at ht;simp at ht;rcases ht with rfl|rfl<;>exact⟨by kernel_rfl,of_decide_eq_true (by kernel_rfl)⟩
 ·rw[Tryz.params10] at hl
  match ZO,hl with
  |[a,b],_=>rfl
 ·rw[Tryz.params10];rfl
end Go.Proofs.YtffladgmkiimjaaGreatDoor
