/- BellReal (15): THE ROW'S STATEMENT. BellReal: THE CARD. -/
import Derived.Test.YtffladgmkiimjaaGreatDoorU13
import Derived.Test.YtffladgmkiimjaaGreatDoorU04
import Derived.Test.YtffladgmkiimjaaGreatDoorCards
import Derived.Test.YtffladgmkiimjaaGreatDoorTie
set_option linter.all false
set_option maxHeartbeats 0
set_option maxRecDepth 1000000
open Option.some renaming inj -> bp
namespace Go.Proofs.YtffladgmkiimjaaGreatDoor
open Go Go.RowKit Go.Lag Go.ChangeShapes Go.Conc
def Hp:Rows.BellRealSaid:=
 OpenClaim.holds_of_wide_leaving 15 Tryz.f15 rfl rfl rfl rfl rfl rfl rfl ⟨rfl,rfl,rfl,rfl,rfl⟩ rfl rfl rfl rfl rfl kQ Tryz.func15 LJ
  (of_decide_eq_true kQ) (by unfold Func.isWrapper;first|(rw[if_pos (by decide+kernel)];kernel_rfl)|(rw[if_neg (by decide+kernel)];exact⟨rfl,rfl⟩))
  (fun os started H enc _=>LI os started H enc)
theorem Dq(Lk:Looks){p:Pinned}{s:OpenSpec}{c:OpenClaim}(kinds:List LaidKind)(tests:Bool)(Gt:Bool × String)(lk:Bool)
  (hc:c.holds p s) (hw:c.wfByText s=true) (ain:c.laidByTextAt Lk p kinds tests)
  (hst:c.start=.entering) (J7:c.noBlocks=false/\c.again=false) (hm:p.checked.prog.mainIs=some (Gt.1,Gt.2.toList)) (hn:(!Gt.1&&Gt.2.isEmpty && !lk)=false)
  (hl:∀f fn,p.checked.prog.funcNamed c.func=some f->p.checked.prog.funcs[f]?=some fn->lk=p.checked.prog.looks []/\∀(j:Nat) t,fn.params[j]?=some t->p.checked.prog.wantsStandIn t=false)
  (hg:true=c.goesBy p.checked.prog) :
  Claim7.holds p (.plain s) { stood:={ row:=c,standIns:=[],harness:=Gt,looks:=lk },kinds:=[],alts:=[],goes:=true,laidByText:=true,laidKinds:=kinds,laidTests:=tests,laidLooks:=Lk }:=by
 have h6:∀r:OpenClaim,Claim7.isSixth { stood:={ row:=r,standIns:=[],harness:=Gt,looks:=lk },kinds:=[] }=false:=fun r=>by simpa [Claim7.isSixth] using hn
 exact⟨Claim7.tied_new_at Lk kinds tests (Claim7.new_of_sixth hc Gt lk hst J7 hm (h6 c) hl) hw,(fun D hD=>by cases hD),ain,(fun h=>by cases h),hg⟩
theorem bellReal_holds:Rows.BellRealCardSaid:=
 Dq .later [.funcs] true (true,"66bdfc7175848eea31b2c571405583884ff099041214462bfa7f89c9ac7638ea") false
  Hp kQ bellReal_row_tie rfl ⟨rfl,rfl⟩ kQ rfl
  (fun f fn hf hfn=>by
   obtain rfl:f=15:=bp ((show Tryz.prog.funcNamed "lagan/laganlaw04.BellReal" = some 15 by kernel_rfl).symm.trans hf) |>.symm
   obtain rfl:fn=Tryz.f15:=(bp (Tryz.func15.symm.trans hfn)).symm
   exact⟨kQ,fun j t ht=>by
    rw[Tryz.params15] at ht
    match j,ht with
    |0,ht=>simp at ht;subst ht;exact(show Tryz.prog.wantsStandIn 28=false by kernel_rfl)
    |1,ht=>simp at ht;subst ht;exact(show Tryz.prog.wantsStandIn 39=false by kernel_rfl)
    |2,ht=>simp at ht;subst ht;exact(show Tryz.prog.wantsStandIn 40=false by kernel_rfl)
    |3,ht=>simp at ht;subst ht;exact(show Tryz.prog.wantsStandIn 5=false by kernel_rfl)
    |4,ht=>simp at ht;subst ht;exact(show Tryz.prog.wantsStandIn 5=false by kernel_rfl)
    |j+5,ht=>simp at ht⟩)
  kQ
end Go.Proofs.YtffladgmkiimjaaGreatDoor
