/- BellAsked (10): THE ROW'S STATEMENT. BellAsked: THE CARD. -/
import Derived.Test.YtffladgmkiimjaaGreatDoorW20
import Derived.Test.YtffladgmkiimjaaGreatDoorW21
import Derived.Test.YtffladgmkiimjaaGreatDoorCards
import Derived.Test.YtffladgmkiimjaaGreatDoorTie
import Derived.SevenTiedAt
set_option linter.all false
set_option maxHeartbeats 100000000
set_option maxRecDepth 1000000
namespace Go.Proofs.YtffladgmkiimjaaGreatDoor
open Go Go.RowKit Go.Lag Go.ChangeShapes Go.Conc
theorem aaM:Rows.BellAskedSaid:=
 OpenClaim.holds_of_wide_leaving 10 Tryz.f10 rfl rfl rfl rfl rfl rfl rfl ⟨rfl,rfl,rfl,rfl,rfl⟩ rfl rfl rfl rfl rfl (by kernel_rfl) Tryz.func10 aa5
  (of_decide_eq_true (by kernel_rfl)) (by unfold Func.isWrapper;first|(rw[if_pos (by decide+kernel)];kernel_rfl)|(rw[if_neg (by decide+kernel)];exact⟨rfl,rfl⟩))
  (fun os started H enc _=>aaZ os started H enc)
end Go.Proofs.YtffladgmkiimjaaGreatDoor
namespace Go.Proofs.YtffladgmkiimjaaGreatDoor
open Go
theorem Cg(Lk:Looks){p:Pinned}{s:OpenSpec}{c:OpenClaim}(kinds:List LaidKind)(tests:Bool)(E9:Bool × String)(lk:Bool)
  (hc:c.holds p s) (hw:c.wfByText s=true) (aeU:c.laidByTextAt Lk p kinds tests)
  (hst:c.start=.entering) (IB:c.noBlocks=false∧c.again=false) (hm:p.checked.prog.mainIs=some (E9.1,E9.2.toList)) (hn:(!E9.1&&E9.2.isEmpty && !lk)=false)
  (hl:∀f fn,p.checked.prog.funcNamed c.func=some f→p.checked.prog.funcs[f]?=some fn→lk=p.checked.prog.looks []∧∀(j:Nat) t,fn.params[j]?=some t→p.checked.prog.wantsStandIn t=false)
  (hg:true=c.goesBy p.checked.prog) :
  Claim7.holds p (.plain s) { stood:={ row:=c,standIns:=[],harness:=E9,looks:=lk },kinds:=[],alts:=[],goes:=true,laidByText:=true,laidKinds:=kinds,laidTests:=tests,laidLooks:=Lk }:=by
 have h6:∀r:OpenClaim,Claim7.isSixth { stood:={ row:=r,standIns:=[],harness:=E9,looks:=lk },kinds:=[] }=false:=fun r=>by simpa [Claim7.isSixth] using hn
 exact⟨Claim7.tied_new_at Lk kinds tests (Claim7.new_of_sixth hc E9 lk hst IB hm (h6 c) hl) hw,(fun D hD=>by cases hD),aeU,(fun h=>by cases h),hg⟩
theorem bellAsked_holds:Rows.BellAskedCardSaid:=
 Cg .later [.funcs] true (true,"66bdfc7175848eea31b2c571405583884ff099041214462bfa7f89c9ac7638ea") false
  aaM (by kernel_rfl) bellAsked_row_tie rfl ⟨rfl,rfl⟩ (by kernel_rfl) rfl
  (fun f fn hf hfn=>by
   obtain rfl:f=10:=Option.some.inj ((show Tryz.prog.funcNamed "lagan/laganlaw04.BellAsked" = some 10 by kernel_rfl).symm.trans hf) |>.symm
   obtain rfl:fn=Tryz.f10:=(Option.some.inj (Tryz.func10.symm.trans hfn)).symm
   exact⟨by kernel_rfl,fun j t ht=>by
    rw[Tryz.params10] at ht
    match j,ht with
    |0,ht=>simp at ht;subst ht;exact(show Tryz.prog.wantsStandIn 28=false by kernel_rfl)
    |1,ht=>simp at ht;subst ht;exact(show Tryz.prog.wantsStandIn 5=false by kernel_rfl)
    |j+2,ht=>simp at ht⟩)
  (by kernel_rfl)
end Go.Proofs.YtffladgmkiimjaaGreatDoor
