/- BellPlayed (4): THE ROW'S STATEMENT. BellPlayed: THE CARD. -/
import Derived.Test.YtffladgmkiimjaaGreatDoorW14
import Derived.Test.YtffladgmkiimjaaGreatDoorW05
import Derived.Test.YtffladgmkiimjaaGreatDoorCards
import Derived.Test.YtffladgmkiimjaaGreatDoorTie
import Derived.SevenTiedAt
set_option linter.all false
set_option maxHeartbeats 100000000
set_option maxRecDepth 1000000
open Option.some renaming inj -> bj
namespace Go.Proofs.YtffladgmkiimjaaGreatDoor
open Go Go.RowKit Go.Lag Go.ChangeShapes Go.Conc
theorem Dg:Rows.BellPlayedSaid:=
 OpenClaim.holds_of_wide_leaving 4 Tryz.f4 rfl rfl rfl rfl rfl rfl rfl ⟨rfl,rfl,rfl,rfl,rfl⟩ rfl rfl rfl rfl rfl (by kernel_rfl) Tryz.func4 F8
  (of_decide_eq_true (by kernel_rfl)) (by unfold Func.isWrapper;first|(rw[if_pos (by decide+kernel)];kernel_rfl)|(rw[if_neg (by decide+kernel)];exact⟨rfl,rfl⟩))
  (fun os started H enc _=>F7 os started H enc)
end Go.Proofs.YtffladgmkiimjaaGreatDoor
namespace Go.Proofs.YtffladgmkiimjaaGreatDoor
open Go
theorem C5(Lk:Looks){p:Pinned}{s:OpenSpec}{c:OpenClaim}(kinds:List LaidKind)(tests:Bool)(FQ:Bool × String)(lk:Bool)
  (hc:c.holds p s) (hw:c.wfByText s=true) (agS:c.laidByTextAt Lk p kinds tests)
  (hst:c.start=.entering) (Jq:c.noBlocks=false/\c.again=false) (hm:p.checked.prog.mainIs=some (FQ.1,FQ.2.toList)) (hn:(!FQ.1&&FQ.2.isEmpty && !lk)=false)
  (hl:∀f fn,p.checked.prog.funcNamed c.func=some f->p.checked.prog.funcs[f]?=some fn->lk=p.checked.prog.looks []/\∀(j:Nat) t,fn.params[j]?=some t->p.checked.prog.wantsStandIn t=false)
  (hg:true=c.goesBy p.checked.prog) :
  Claim7.holds p (.plain s) { stood:={ row:=c,standIns:=[],harness:=FQ,looks:=lk },kinds:=[],alts:=[],goes:=true,laidByText:=true,laidKinds:=kinds,laidTests:=tests,laidLooks:=Lk }:=by
 have h6:∀r:OpenClaim,Claim7.isSixth { stood:={ row:=r,standIns:=[],harness:=FQ,looks:=lk },kinds:=[] }=false:=fun r=>by simpa [Claim7.isSixth] using hn
 exact⟨Claim7.tied_new_at Lk kinds tests (Claim7.new_of_sixth hc FQ lk hst Jq hm (h6 c) hl) hw,(fun D hD=>by cases hD),agS,(fun h=>by cases h),hg⟩
theorem bellPlayed_holds:Rows.BellPlayedCardSaid:=
 C5 .later [.funcs] true (true,"66bdfc7175848eea31b2c571405583884ff099041214462bfa7f89c9ac7638ea") false
  Dg (by kernel_rfl) bellPlayed_row_tie rfl ⟨rfl,rfl⟩ (by kernel_rfl) rfl
  (fun f fn hf hfn=>by
   obtain rfl:f=4:=bj ((show Tryz.prog.funcNamed "lagan/laganlaw04.BellPlayed" = some 4 by kernel_rfl).symm.trans hf) |>.symm
   obtain rfl:fn=Tryz.f4:=(bj (Tryz.func4.symm.trans hfn)).symm
   exact⟨by kernel_rfl,fun j t ht=>by
    rw[Tryz.params4] at ht
    match j,ht with
    |0,ht=>simp at ht;subst ht;exact(show Tryz.prog.wantsStandIn 28=false by kernel_rfl)
    |1,ht=>simp at ht;subst ht;exact(show Tryz.prog.wantsStandIn 39=false by kernel_rfl)
    |2,ht=>simp at ht;subst ht;exact(show Tryz.prog.wantsStandIn 40=false by kernel_rfl)
    |3,ht=>simp at ht;subst ht;exact(show Tryz.prog.wantsStandIn 5=false by kernel_rfl)
    |j+4,ht=>simp at ht⟩)
  (by kernel_rfl)
end Go.Proofs.YtffladgmkiimjaaGreatDoor
