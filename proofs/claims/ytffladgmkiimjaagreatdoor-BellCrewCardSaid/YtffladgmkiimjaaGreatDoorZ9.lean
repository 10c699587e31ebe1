/- BellCrew (8): THE ROW'S STATEMENT. BellCrew: THE CARD. -/
import Derived.Test.YtffladgmkiimjaaGreatDoorW16
import Derived.Test.YtffladgmkiimjaaGreatDoorW06
import Derived.Test.YtffladgmkiimjaaGreatDoorCards
import Derived.Test.YtffladgmkiimjaaGreatDoorTie
import Derived.SevenTiedAt
set_option linter.all false
set_option maxHeartbeats 100000000
set_option maxRecDepth 1000000
open Option.some renaming inj → bg
namespace Go.Proofs.YtffladgmkiimjaaGreatDoor
open Go Go.RowKit Go.Lag Go.ChangeShapes Go.Conc
theorem F5:Rows.BellCrewSaid:=
 OpenClaim.holds_of_wide_leaving 8 Tryz.f8 rfl rfl rfl rfl rfl rfl rfl ⟨rfl,rfl,rfl,rfl,rfl⟩ rfl rfl rfl rfl rfl (by kernel_rfl) Tryz.func8 Lp
  (of_decide_eq_true (by kernel_rfl)) (by unfold Func.isWrapper;first|(rw[if_pos (by decide+kernel)];kernel_rfl)|(rw[if_neg (by decide+kernel)];exact⟨rfl,rfl⟩))
  (fun os started H enc _=>Ln os started H enc)
end Go.Proofs.YtffladgmkiimjaaGreatDoor
namespace Go.Proofs.YtffladgmkiimjaaGreatDoor
open Go
theorem Co(Lk:Looks){p:Pinned}{s:OpenSpec}{c:OpenClaim}(kinds:List LaidKind)(tests:Bool)(Fp:Bool × String)(lk:Bool)
  (hc:c.holds p s) (hw:c.wfByText s=true) (afv:c.laidByTextAt Lk p kinds tests)
  (hst:c.start=.entering) (I2:c.noBlocks=false∧c.again=false) (hm:p.checked.prog.mainIs=some (Fp.1,Fp.2.toList)) (hn:(!Fp.1&&Fp.2.isEmpty && !lk)=false)
  (hl:∀f fn,p.checked.prog.funcNamed c.func=some f→p.checked.prog.funcs[f]?=some fn→lk=p.checked.prog.looks []∧∀(j:Nat) t,fn.params[j]?=some t→p.checked.prog.wantsStandIn t=false)
  (hg:true=c.goesBy p.checked.prog) :
  Claim7.holds p (.plain s) { stood:={ row:=c,standIns:=[],harness:=Fp,looks:=lk },kinds:=[],alts:=[],goes:=true,laidByText:=true,laidKinds:=kinds,laidTests:=tests,laidLooks:=Lk }:=by
 have h6:∀r:OpenClaim,Claim7.isSixth { stood:={ row:=r,standIns:=[],harness:=Fp,looks:=lk },kinds:=[] }=false:=fun r=>by simpa [Claim7.isSixth] using hn
 exact⟨Claim7.tied_new_at Lk kinds tests (Claim7.new_of_sixth hc Fp lk hst I2 hm (h6 c) hl) hw,(fun D hD=>by cases hD),afv,(fun h=>by cases h),hg⟩
theorem bellCrew_holds:Rows.BellCrewCardSaid:=
 Co .later [.funcs] true (true,"66bdfc7175848eea31b2c571405583884ff099041214462bfa7f89c9ac7638ea") false
  F5 (by kernel_rfl) bellCrew_row_tie rfl ⟨rfl,rfl⟩ (by kernel_rfl) rfl
  (fun f fn hf hfn=>by
   obtain rfl:f=8:=bg ((show Tryz.prog.funcNamed "lagan/laganlaw04.BellCrew" = some 8 by kernel_rfl).symm.trans hf) |>.symm
   obtain rfl:fn=Tryz.f8:=(bg (Tryz.func8.symm.trans hfn)).symm
   exact⟨by kernel_rfl,fun j t ht=>by
    rw[Tryz.params8] at ht
    match j,ht with
    |0,ht=>simp at ht;subst ht;exact(show Tryz.prog.wantsStandIn 28=false by kernel_rfl)
    |1,ht=>simp at ht;subst ht;exact(show Tryz.prog.wantsStandIn 40=false by kernel_rfl)
    |2,ht=>simp at ht;subst ht;exact(show Tryz.prog.wantsStandIn 40=false by kernel_rfl)
    |j+3,ht=>simp at ht⟩)
  (by kernel_rfl)
end Go.Proofs.YtffladgmkiimjaaGreatDoor
