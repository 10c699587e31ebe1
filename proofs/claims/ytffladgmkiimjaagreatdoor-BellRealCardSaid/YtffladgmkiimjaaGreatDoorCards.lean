/-
  DERIVED. GIVEN WITH THE SEED: THE CARDS: each row of YtffladgmkiimjaaGreatDoorRows.lean that lists a variable, with what it lists TIED to the program's text (the seventh form; the later family's looks); each row that meets fmt, with fmt's text TOLD by the authors' own Lean function (tested against real Go, not proved from fmt's source: count such statements apart). THE CARD IS WHAT COUNTS. Prove the row's statement (the work); the ties are given (YtffladgmkiimjaaGreatDoorTie.lean); close each card by the builder's one call (the guide's Derived/Test/ToyasCard.lean, 'card_holds'). Laid BY PROGRAM, IN A SANDBOX (cutbox-door.mjs). By AI agents, Wed Nov 11 2026. No macro, syntax, notation, axiom, sorry.
-/
import Derived.Test.YtffladgmkiimjaaGreatDoorRows
import GoSem.ClaimSeven
namespace Go.Proofs.YtffladgmkiimjaaGreatDoor
namespace Rows

/-- THE TIED CARD OF 'laganlaw04.BellPlans'. -/
def bellPlansCard : Claim7 := { stood := { row := bellPlansRow, standIns := [], harness := (true, "66bdfc7175848eea31b2c571405583884ff099041214462bfa7f89c9ac7638ea"), looks := false }, kinds := [], alts := [], goes := true, laidByText := true, laidKinds := [.funcs], laidTests := true, laidLooks := .later }
def BellPlansCardSaid : Prop := Claim7.holds Tryz.pinned (.plain (OpenSpec.ofChange bellPlansSpec)) bellPlansCard

/-- THE TIED CARD OF 'laganlaw04.BellPlayed'. -/
def bellPlayedCard : Claim7 := { stood := { row := bellPlayedRow, standIns := [], harness := (true, "66bdfc7175848eea31b2c571405583884ff099041214462bfa7f89c9ac7638ea"), looks := false }, kinds := [], alts := [], goes := true, laidByText := true, laidKinds := [.funcs], laidTests := true, laidLooks := .later }
def BellPlayedCardSaid : Prop := Claim7.holds Tryz.pinned (.plain (OpenSpec.ofChange bellPlayedSpec)) bellPlayedCard

/-- THE TIED CARD OF 'laganlaw04.BellMore'. -/
def bellMoreCard : Claim7 := { stood := { row := bellMoreRow, standIns := [], harness := (true, "66bdfc7175848eea31b2c571405583884ff099041214462bfa7f89c9ac7638ea"), looks := false }, kinds := [], alts := [], goes := true, laidByText := true, laidKinds := [.funcs], laidTests := true, laidLooks := .later }
def BellMoreCardSaid : Prop := Claim7.holds Tryz.pinned (.plain (OpenSpec.ofChange bellMoreSpec)) bellMoreCard

/-- THE TIED CARD OF 'laganlaw04.BellPlanned'. -/
def bellPlannedCard : Claim7 := { stood := { row := bellPlannedRow, standIns := [], harness := (true, "66bdfc7175848eea31b2c571405583884ff099041214462bfa7f89c9ac7638ea"), looks := false }, kinds := [], alts := [], goes := true, laidByText := true, laidKinds := [.funcs], laidTests := true, laidLooks := .later }
def BellPlannedCardSaid : Prop := Claim7.holds Tryz.pinned (.plain (OpenSpec.ofChange bellPlannedSpec)) bellPlannedCard

/-- THE TIED CARD OF 'laganlaw04.BellDeep'. -/
def bellDeepCard : Claim7 := { stood := { row := bellDeepRow, standIns := [], harness := (true, "66bdfc7175848eea31b2c571405583884ff099041214462bfa7f89c9ac7638ea"), looks := false }, kinds := [], alts := [], goes := true, laidByText := true, laidKinds := [.funcs], laidTests := true, laidLooks := .later }
def BellDeepCardSaid : Prop := Claim7.holds Tryz.pinned (.plain (OpenSpec.ofChange bellDeepSpec)) bellDeepCard

/-- THE TIED CARD OF 'laganlaw04.BellCrew'. -/
def bellCrewCard : Claim7 := { stood := { row := bellCrewRow, standIns := [], harness := (true, "66bdfc7175848eea31b2c571405583884ff099041214462bfa7f89c9ac7638ea"), looks := false }, kinds := [], alts := [], goes := true, laidByText := true, laidKinds := [.funcs], laidTests := true, laidLooks := .later }
def BellCrewCardSaid : Prop := Claim7.holds Tryz.pinned (.plain (OpenSpec.ofChange bellCrewSpec)) bellCrewCard

/-- THE TIED CARD OF 'laganlaw04.BellClashes'. -/
def bellClashesCard : Claim7 := { stood := { row := bellClashesRow, standIns := [], harness := (true, "66bdfc7175848eea31b2c571405583884ff099041214462bfa7f89c9ac7638ea"), looks := false }, kinds := [], alts := [], goes := true, laidByText := true, laidKinds := [.funcs], laidTests := true, laidLooks := .later }
def BellClashesCardSaid : Prop := Claim7.holds Tryz.pinned (.plain (OpenSpec.ofChange bellClashesSpec)) bellClashesCard

/-- THE TIED CARD OF 'laganlaw04.BellAsked'. -/
def bellAskedCard : Claim7 := { stood := { row := bellAskedRow, standIns := [], harness := (true, "66bdfc7175848eea31b2c571405583884ff099041214462bfa7f89c9ac7638ea"), looks := false }, kinds := [], alts := [], goes := true, laidByText := true, laidKinds := [.funcs], laidTests := true, laidLooks := .later }
def BellAskedCardSaid : Prop := Claim7.holds Tryz.pinned (.plain (OpenSpec.ofChange bellAskedSpec)) bellAskedCard

/-- THE TIED CARD OF 'laganlaw04.BellCases'. -/
def bellCasesCard : Claim7 := { stood := { row := bellCasesRow, standIns := [], harness := (true, "66bdfc7175848eea31b2c571405583884ff099041214462bfa7f89c9ac7638ea"), looks := false }, kinds := [], alts := [], goes := true, laidByText := true, laidKinds := [.funcs], laidTests := true, laidLooks := .later }
def BellCasesCardSaid : Prop := Claim7.holds Tryz.pinned (.plain (OpenSpec.ofChange bellCasesSpec)) bellCasesCard

/-- THE TIED CARD OF 'laganlaw04.BellAnyOrder'. -/
def bellAnyOrderCard : Claim7 := { stood := { row := bellAnyOrderRow, standIns := [], harness := (true, "66bdfc7175848eea31b2c571405583884ff099041214462bfa7f89c9ac7638ea"), looks := false }, kinds := [], alts := [], goes := true, laidByText := true, laidKinds := [.funcs], laidTests := true, laidLooks := .later }
def BellAnyOrderCardSaid : Prop := Claim7.holds Tryz.pinned (.plain (OpenSpec.ofChange bellAnyOrderSpec)) bellAnyOrderCard

/-- THE TIED CARD OF 'laganlaw04.BellPlays'. -/
def bellPlaysCard : Claim7 := { stood := { row := bellPlaysRow, standIns := [], harness := (true, "66bdfc7175848eea31b2c571405583884ff099041214462bfa7f89c9ac7638ea"), looks := false }, kinds := [], alts := [], goes := true, laidByText := true, laidKinds := [.funcs], laidTests := true, laidLooks := .later }
def BellPlaysCardSaid : Prop := Claim7.holds Tryz.pinned (.plain (OpenSpec.ofChange bellPlaysSpec)) bellPlaysCard

/-- THE TIED CARD OF 'laganlaw04.BellNews'. -/
def bellNewsCard : Claim7 := { stood := { row := bellNewsRow, standIns := [], harness := (true, "66bdfc7175848eea31b2c571405583884ff099041214462bfa7f89c9ac7638ea"), looks := false }, kinds := [], alts := [], goes := true, laidByText := true, laidKinds := [.funcs], laidTests := true, laidLooks := .later }
def BellNewsCardSaid : Prop := Claim7.holds Tryz.pinned (.plain (OpenSpec.ofChange bellNewsSpec)) bellNewsCard

/-- THE TIED CARD OF 'laganlaw04.BellReal'. -/
def bellRealCard : Claim7 := { stood := { row := bellRealRow, standIns := [], harness := (true, "66bdfc7175848eea31b2c571405583884ff099041214462bfa7f89c9ac7638ea"), looks := false }, kinds := [], alts := [], goes := true, laidByText := true, laidKinds := [.funcs], laidTests := true, laidLooks := .later }
def BellRealCardSaid : Prop := Claim7.holds Tryz.pinned (.plain (OpenSpec.ofChange bellRealSpec)) bellRealCard

/-- THE TIED CARD OF 'laganlaw04.BellReached'. -/
def bellReachedCard : Claim7 := { stood := { row := bellReachedRow, standIns := [], harness := (true, "66bdfc7175848eea31b2c571405583884ff099041214462bfa7f89c9ac7638ea"), looks := false }, kinds := [], alts := [], goes := true, laidByText := true, laidKinds := [.funcs], laidTests := true, laidLooks := .later }
def BellReachedCardSaid : Prop := Claim7.holds Tryz.pinned (.plain (OpenSpec.ofChange bellReachedSpec)) bellReachedCard

/-- THE TIED CARD OF 'laganlaw04.BellLearnt'. -/
def bellLearntCard : Claim7 := { stood := { row := bellLearntRow, standIns := [], harness := (true, "66bdfc7175848eea31b2c571405583884ff099041214462bfa7f89c9ac7638ea"), looks := false }, kinds := [], alts := [], goes := true, laidByText := true, laidKinds := [.funcs], laidTests := true, laidLooks := .later }
def BellLearntCardSaid : Prop := Claim7.holds Tryz.pinned (.plain (OpenSpec.ofChange bellLearntSpec)) bellLearntCard

/-- THE SECOND FORM's CARD OF 'laganlaw04.BellPlans'. -/
def bellPlansUptoCard : Claim7 := { stood := { row := bellPlansUptoRow, standIns := [], harness := (true, "66bdfc7175848eea31b2c571405583884ff099041214462bfa7f89c9ac7638ea"), looks := false }, kinds := [], alts := [], goes := true, laidByText := true, laidKinds := [.funcs], laidTests := true, laidLooks := .later }
def BellPlansUptoCardSaid : Prop := Claim7.holds Tryz.pinned (.plain (OpenSpec.upto bellPlansSpec)) bellPlansUptoCard

/-- THE SECOND FORM's CARD OF 'laganlaw04.BellPlayed'. -/
def bellPlayedUptoCard : Claim7 := { stood := { row := bellPlayedUptoRow, standIns := [], harness := (true, "66bdfc7175848eea31b2c571405583884ff099041214462bfa7f89c9ac7638ea"), looks := false }, kinds := [], alts := [], goes := true, laidByText := true, laidKinds := [.funcs], laidTests := true, laidLooks := .later }
def BellPlayedUptoCardSaid : Prop := Claim7.holds Tryz.pinned (.plain (OpenSpec.upto bellPlayedSpec)) bellPlayedUptoCard

/-- THE SECOND FORM's CARD OF 'laganlaw04.BellMore'. -/
def bellMoreUptoCard : Claim7 := { stood := { row := bellMoreUptoRow, standIns := [], harness := (true, "66bdfc7175848eea31b2c571405583884ff099041214462bfa7f89c9ac7638ea"), looks := false }, kinds := [], alts := [], goes := true, laidByText := true, laidKinds := [.funcs], laidTests := true, laidLooks := .later }
def BellMoreUptoCardSaid : Prop := Claim7.holds Tryz.pinned (.plain (OpenSpec.upto bellMoreSpec)) bellMoreUptoCard

/-- THE SECOND FORM's CARD OF 'laganlaw04.BellPlanned'. -/
def bellPlannedUptoCard : Claim7 := { stood := { row := bellPlannedUptoRow, standIns := [], harness := (true, "66bdfc7175848eea31b2c571405583884ff099041214462bfa7f89c9ac7638ea"), looks := false }, kinds := [], alts := [], goes := true, laidByText := true, laidKinds := [.funcs], laidTests := true, laidLooks := .later }
def BellPlannedUptoCardSaid : Prop := Claim7.holds Tryz.pinned (.plain (OpenSpec.upto bellPlannedSpec)) bellPlannedUptoCard

/-- THE SECOND FORM's CARD OF 'laganlaw04.BellDeep'. -/
def bellDeepUptoCard : Claim7 := { stood := { row := bellDeepUptoRow, standIns := [], harness := (true, "66bdfc7175848eea31b2c571405583884ff099041214462bfa7f89c9ac7638ea"), looks := false }, kinds := [], alts := [], goes := true, laidByText := true, laidKinds := [.funcs], laidTests := true, laidLooks := .later }
def BellDeepUptoCardSaid : Prop := Claim7.holds Tryz.pinned (.plain (OpenSpec.upto bellDeepSpec)) bellDeepUptoCard

/-- THE SECOND FORM's CARD OF 'laganlaw04.BellCrew'. -/
def bellCrewUptoCard : Claim7 := { stood := { row := bellCrewUptoRow, standIns := [], harness := (true, "66bdfc7175848eea31b2c571405583884ff099041214462bfa7f89c9ac7638ea"), looks := false }, kinds := [], alts := [], goes := true, laidByText := true, laidKinds := [.funcs], laidTests := true, laidLooks := .later }
def BellCrewUptoCardSaid : Prop := Claim7.holds Tryz.pinned (.plain (OpenSpec.upto bellCrewSpec)) bellCrewUptoCard

/-- THE SECOND FORM's CARD OF 'laganlaw04.BellClashes'. -/
def bellClashesUptoCard : Claim7 := { stood := { row := bellClashesUptoRow, standIns := [], harness := (true, "66bdfc7175848eea31b2c571405583884ff099041214462bfa7f89c9ac7638ea"), looks := false }, kinds := [], alts := [], goes := true, laidByText := true, laidKinds := [.funcs], laidTests := true, laidLooks := .later }
def BellClashesUptoCardSaid : Prop := Claim7.holds Tryz.pinned (.plain (OpenSpec.upto bellClashesSpec)) bellClashesUptoCard

/-- THE SECOND FORM's CARD OF 'laganlaw04.BellAsked'. -/
def bellAskedUptoCard : Claim7 := { stood := { row := bellAskedUptoRow, standIns := [], harness := (true, "66bdfc7175848eea31b2c571405583884ff099041214462bfa7f89c9ac7638ea"), looks := false }, kinds := [], alts := [], goes := true, laidByText := true, laidKinds := [.funcs], laidTests := true, laidLooks := .later }
def BellAskedUptoCardSaid : Prop := Claim7.holds Tryz.pinned (.plain (OpenSpec.upto bellAskedSpec)) bellAskedUptoCard

/-- THE SECOND FORM's CARD OF 'laganlaw04.BellCases'. -/
def bellCasesUptoCard : Claim7 := { stood := { row := bellCasesUptoRow, standIns := [], harness := (true, "66bdfc7175848eea31b2c571405583884ff099041214462bfa7f89c9ac7638ea"), looks := false }, kinds := [], alts := [], goes := true, laidByText := true, laidKinds := [.funcs], laidTests := true, laidLooks := .later }
def BellCasesUptoCardSaid : Prop := Claim7.holds Tryz.pinned (.plain (OpenSpec.upto bellCasesSpec)) bellCasesUptoCard

/-- THE SECOND FORM's CARD OF 'laganlaw04.BellAnyOrder'. -/
def bellAnyOrderUptoCard : Claim7 := { stood := { row := bellAnyOrderUptoRow, standIns := [], harness := (true, "66bdfc7175848eea31b2c571405583884ff099041214462bfa7f89c9ac7638ea"), looks := false }, kinds := [], alts := [], goes := true, laidByText := true, laidKinds := [.funcs], laidTests := true, laidLooks := .later }
def BellAnyOrderUptoCardSaid : Prop := Claim7.holds Tryz.pinned (.plain (OpenSpec.upto bellAnyOrderSpec)) bellAnyOrderUptoCard

/-- THE SECOND FORM's CARD OF 'laganlaw04.BellPlays'. -/
def bellPlaysUptoCard : Claim7 := { stood := { row := bellPlaysUptoRow, standIns := [], harness := (true, "66bdfc7175848eea31b2c571405583884ff099041214462bfa7f89c9ac7638ea"), looks := false }, kinds := [], alts := [], goes := true, laidByText := true, laidKinds := [.funcs], laidTests := true, laidLooks := .later }
def BellPlaysUptoCardSaid : Prop := Claim7.holds Tryz.pinned (.plain (OpenSpec.upto bellPlaysSpec)) bellPlaysUptoCard

/-- THE SECOND FORM's CARD OF 'laganlaw04.BellNews'. -/
def bellNewsUptoCard : Claim7 := { stood := { row := bellNewsUptoRow, standIns := [], harness := (true, "66bdfc7175848eea31b2c571405583884ff099041214462bfa7f89c9ac7638ea"), looks := false }, kinds := [], alts := [], goes := true, laidByText := true, laidKinds := [.funcs], laidTests := true, laidLooks := .later }
def BellNewsUptoCardSaid : Prop := Claim7.holds Tryz.pinned (.plain (OpenSpec.upto bellNewsSpec)) bellNewsUptoCard

/-- THE SECOND FORM's CARD OF 'laganlaw04.BellReal'. -/
def bellRealUptoCard : Claim7 := { stood := { row := bellRealUptoRow, standIns := [], harness := (true, "66bdfc7175848eea31b2c571405583884ff099041214462bfa7f89c9ac7638ea"), looks := false }, kinds := [], alts := [], goes := true, laidByText := true, laidKinds := [.funcs], laidTests := true, laidLooks := .later }
def BellRealUptoCardSaid : Prop := Claim7.holds Tryz.pinned (.plain (OpenSpec.upto bellRealSpec)) bellRealUptoCard

/-- THE SECOND FORM's CARD OF 'laganlaw04.BellReached'. -/
def bellReachedUptoCard : Claim7 := { stood := { row := bellReachedUptoRow, standIns := [], harness := (true, "66bdfc7175848eea31b2c571405583884ff099041214462bfa7f89c9ac7638ea"), looks := false }, kinds := [], alts := [], goes := true, laidByText := true, laidKinds := [.funcs], laidTests := true, laidLooks := .later }
def BellReachedUptoCardSaid : Prop := Claim7.holds Tryz.pinned (.plain (OpenSpec.upto bellReachedSpec)) bellReachedUptoCard

/-- THE SECOND FORM's CARD OF 'laganlaw04.BellLearnt'. -/
def bellLearntUptoCard : Claim7 := { stood := { row := bellLearntUptoRow, standIns := [], harness := (true, "66bdfc7175848eea31b2c571405583884ff099041214462bfa7f89c9ac7638ea"), looks := false }, kinds := [], alts := [], goes := true, laidByText := true, laidKinds := [.funcs], laidTests := true, laidLooks := .later }
def BellLearntUptoCardSaid : Prop := Claim7.holds Tryz.pinned (.plain (OpenSpec.upto bellLearntSpec)) bellLearntUptoCard
end Rows
end Go.Proofs.YtffladgmkiimjaaGreatDoor
