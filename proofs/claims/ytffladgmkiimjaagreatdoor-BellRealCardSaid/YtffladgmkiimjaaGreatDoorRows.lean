/-
  NARROWER THAN 'FOR EVERY INPUT', by the rows' own cells (each row's printed sentence says how): BellPlans: laid · BellPlayed: laid · BellMore: laid · BellPlanned: laid · BellDeep: laid · BellCrew: laid · BellClashes: laid · BellAsked: laid · BellCases: laid · BellAnyOrder: laid · BellPlays: laid · BellNews: laid · BellReal: laid · BellReached: laid · BellLearnt: laid.
  DERIVED. THE GIVEN ROWS OF THIS SEAT. 15 by the template 'for every input the law returns true; each argument reads behind the call as it read before'; 0 by the template 'total and deterministic' (their statements: YtffladgmkiimjaaGreatDoorTotals.lean).
  GIVEN WITH THE SEED: the statements are not yours to turn. If you find one false, say at which input.
  Laid BY PROGRAM, IN A SANDBOX (cutbox-rows.mjs): the forced cells as the released guide's own fill.sh prints them over the translation 3fdd1a63bddc3a55… (all of the seat's roots in one cut). By AI agents, Wed Nov 11 2026. No macro, syntax, notation, axiom, sorry.
-/
import Derived.Test.YtffladgmkiimjaaGreatDoorChecked
import GoSem.Claim
import GoSem.ClaimJoined
import GoSem.ClaimMapViews
import Derived.JoinedTies
import Derived.KernelRfl
namespace Go.Proofs.YtffladgmkiimjaaGreatDoor
/- THE CELL 'sum', in the pinned program and in every row, IS THE sha256 OF THE DUMP (.gsa) THAT YtffladgmkiimjaaGreatDoorProg.lean LOADS. Nothing in Lean hashes anything: it is a label: what it is worth is what the hold of that sum in a sandbox is worth. -/
noncomputable def Tryz.pinned : Pinned := { name := "ytffladgmkiimjaagreatdoor", sum := "3fdd1a63bddc3a55f3443f8525f3cf8d80dd1beb5e0dea6a39be339a665944b1", checked := Tryz.checked }
namespace Rows
def none {H : Type} : Left H := { results := [], args := [] }

/- WHAT THE LISTED PACKAGE-LEVEL VARIABLES READ AS WHEN THE CALL BEGINS. Each datum BY PROGRAM (the guide's laid-datum.mjs) off the statement by which the dump's own 'gosem.cut.vars' lays the variable. In a bare row this is a premise. The card (YtffladgmkiimjaaGreatDoorCards.lean) ties it to the program's text. -/
def laid_lagan_bell_checks {H : Type} : DataW H := .iface "func table" (.agg [.agg [.iface "func" (.lit (.string [40, 108, 97, 103, 97, 110, 47, 98, 101, 108, 108, 46, 98, 111, 111, 107, 41, 46, 98, 101, 108, 108]))], .agg [.iface "func" (.lit (.string [40, 108, 97, 103, 97, 110, 47, 98, 101, 108, 108, 46, 98, 111, 111, 107, 41, 46, 117, 115, 101, 115]))], .agg [.iface "func" (.lit (.string [40, 108, 97, 103, 97, 110, 47, 98, 101, 108, 108, 46, 98, 111, 111, 107, 41, 46, 109, 101, 110]))], .agg [.iface "func" (.lit (.string [40, 108, 97, 103, 97, 110, 47, 98, 101, 108, 108, 46, 98, 111, 111, 107, 41, 46, 115, 101, 110, 116]))], .agg [.iface "func" (.lit (.string [40, 108, 97, 103, 97, 110, 47, 98, 101, 108, 108, 46, 98, 111, 111, 107, 41, 46, 109, 97, 114, 107, 115]))]])

/-- 'laganlaw04.BellPlans': WHATEVER THE INPUT: true; the input reads as it did. -/
def bellPlansSpec : ChangeSpec := { name := "bellPlans", fn := fun _ => fun
  | [d1, d2] => { results := [.lit (.bool true)], args := [d1, d2] }
  | _ => none }
def bellPlansRow : OpenClaim := { program := "ytffladgmkiimjaagreatdoor", sum := "3fdd1a63bddc3a55f3443f8525f3cf8d80dd1beb5e0dea6a39be339a665944b1", func := "lagan/laganlaw04.BellPlans", spec := "bellPlans", unfollowed := true, recurses := true, named := ["lagan/bell.checks"], plainKeys := false, leaving := true, apart := false, laid := [("lagan/bell.checks", laid_lagan_bell_checks)] }
def BellPlansSaid : Prop := bellPlansRow.holds Tryz.pinned (OpenSpec.ofChange bellPlansSpec)

/-- ITS FALSE NEIGHBOUR: 'it returns false'. Refute it at one input. -/
def bellPlansWrong : ChangeSpec := { name := "bellPlans", fn := fun _ => fun
  | [d1, d2] => { results := [.lit (.bool false)], args := [d1, d2] }
  | _ => none }
def BellPlansWrongFalsely : Prop := bellPlansRow.holds Tryz.pinned (OpenSpec.ofChange bellPlansWrong)

/-- 'laganlaw04.BellPlayed': WHATEVER THE INPUT: true; the input reads as it did. -/
def bellPlayedSpec : ChangeSpec := { name := "bellPlayed", fn := fun _ => fun
  | [d1, d2, d3, d4] => { results := [.lit (.bool true)], args := [d1, d2, d3, d4] }
  | _ => none }
def bellPlayedRow : OpenClaim := { program := "ytffladgmkiimjaagreatdoor", sum := "3fdd1a63bddc3a55f3443f8525f3cf8d80dd1beb5e0dea6a39be339a665944b1", func := "lagan/laganlaw04.BellPlayed", spec := "bellPlayed", unfollowed := true, recurses := true, named := ["lagan/bell.checks"], plainKeys := false, leaving := true, apart := false, laid := [("lagan/bell.checks", laid_lagan_bell_checks)] }
def BellPlayedSaid : Prop := bellPlayedRow.holds Tryz.pinned (OpenSpec.ofChange bellPlayedSpec)

/-- ITS FALSE NEIGHBOUR: 'it returns false'. Refute it at one input. -/
def bellPlayedWrong : ChangeSpec := { name := "bellPlayed", fn := fun _ => fun
  | [d1, d2, d3, d4] => { results := [.lit (.bool false)], args := [d1, d2, d3, d4] }
  | _ => none }
def BellPlayedWrongFalsely : Prop := bellPlayedRow.holds Tryz.pinned (OpenSpec.ofChange bellPlayedWrong)

/-- 'laganlaw04.BellMore': WHATEVER THE INPUT: true; the input reads as it did. -/
def bellMoreSpec : ChangeSpec := { name := "bellMore", fn := fun _ => fun
  | [d1, d2, d3, d4, d5] => { results := [.lit (.bool true)], args := [d1, d2, d3, d4, d5] }
  | _ => none }
def bellMoreRow : OpenClaim := { program := "ytffladgmkiimjaagreatdoor", sum := "3fdd1a63bddc3a55f3443f8525f3cf8d80dd1beb5e0dea6a39be339a665944b1", func := "lagan/laganlaw04.BellMore", spec := "bellMore", unfollowed := true, recurses := true, named := ["lagan/bell.checks"], plainKeys := false, leaving := true, apart := false, laid := [("lagan/bell.checks", laid_lagan_bell_checks)] }
def BellMoreSaid : Prop := bellMoreRow.holds Tryz.pinned (OpenSpec.ofChange bellMoreSpec)

/-- ITS FALSE NEIGHBOUR: 'it returns false'. Refute it at one input. -/
def bellMoreWrong : ChangeSpec := { name := "bellMore", fn := fun _ => fun
  | [d1, d2, d3, d4, d5] => { results := [.lit (.bool false)], args := [d1, d2, d3, d4, d5] }
  | _ => none }
def BellMoreWrongFalsely : Prop := bellMoreRow.holds Tryz.pinned (OpenSpec.ofChange bellMoreWrong)

/-- 'laganlaw04.BellPlanned': WHATEVER THE INPUT: true; the input reads as it did. -/
def bellPlannedSpec : ChangeSpec := { name := "bellPlanned", fn := fun _ => fun
  | [d1, d2] => { results := [.lit (.bool true)], args := [d1, d2] }
  | _ => none }
def bellPlannedRow : OpenClaim := { program := "ytffladgmkiimjaagreatdoor", sum := "3fdd1a63bddc3a55f3443f8525f3cf8d80dd1beb5e0dea6a39be339a665944b1", func := "lagan/laganlaw04.BellPlanned", spec := "bellPlanned", unfollowed := true, recurses := true, named := ["lagan/bell.checks"], plainKeys := false, leaving := true, apart := false, laid := [("lagan/bell.checks", laid_lagan_bell_checks)] }
def BellPlannedSaid : Prop := bellPlannedRow.holds Tryz.pinned (OpenSpec.ofChange bellPlannedSpec)

/-- ITS FALSE NEIGHBOUR: 'it returns false'. Refute it at one input. -/
def bellPlannedWrong : ChangeSpec := { name := "bellPlanned", fn := fun _ => fun
  | [d1, d2] => { results := [.lit (.bool false)], args := [d1, d2] }
  | _ => none }
def BellPlannedWrongFalsely : Prop := bellPlannedRow.holds Tryz.pinned (OpenSpec.ofChange bellPlannedWrong)

/-- 'laganlaw04.BellDeep': WHATEVER THE INPUT: true; the input reads as it did. -/
def bellDeepSpec : ChangeSpec := { name := "bellDeep", fn := fun _ => fun
  | [d1, d2, d3] => { results := [.lit (.bool true)], args := [d1, d2, d3] }
  | _ => none }
def bellDeepRow : OpenClaim := { program := "ytffladgmkiimjaagreatdoor", sum := "3fdd1a63bddc3a55f3443f8525f3cf8d80dd1beb5e0dea6a39be339a665944b1", func := "lagan/laganlaw04.BellDeep", spec := "bellDeep", unfollowed := true, recurses := true, named := ["lagan/bell.checks"], plainKeys := false, leaving := true, apart := false, laid := [("lagan/bell.checks", laid_lagan_bell_checks)] }
def BellDeepSaid : Prop := bellDeepRow.holds Tryz.pinned (OpenSpec.ofChange bellDeepSpec)

/-- ITS FALSE NEIGHBOUR: 'it returns false'. Refute it at one input. -/
def bellDeepWrong : ChangeSpec := { name := "bellDeep", fn := fun _ => fun
  | [d1, d2, d3] => { results := [.lit (.bool false)], args := [d1, d2, d3] }
  | _ => none }
def BellDeepWrongFalsely : Prop := bellDeepRow.holds Tryz.pinned (OpenSpec.ofChange bellDeepWrong)

/-- 'laganlaw04.BellCrew': WHATEVER THE INPUT: true; the input reads as it did. -/
def bellCrewSpec : ChangeSpec := { name := "bellCrew", fn := fun _ => fun
  | [d1, d2, d3] => { results := [.lit (.bool true)], args := [d1, d2, d3] }
  | _ => none }
def bellCrewRow : OpenClaim := { program := "ytffladgmkiimjaagreatdoor", sum := "3fdd1a63bddc3a55f3443f8525f3cf8d80dd1beb5e0dea6a39be339a665944b1", func := "lagan/laganlaw04.BellCrew", spec := "bellCrew", unfollowed := true, recurses := true, named := ["lagan/bell.checks"], plainKeys := false, leaving := true, apart := false, laid := [("lagan/bell.checks", laid_lagan_bell_checks)] }
def BellCrewSaid : Prop := bellCrewRow.holds Tryz.pinned (OpenSpec.ofChange bellCrewSpec)

/-- ITS FALSE NEIGHBOUR: 'it returns false'. Refute it at one input. -/
def bellCrewWrong : ChangeSpec := { name := "bellCrew", fn := fun _ => fun
  | [d1, d2, d3] => { results := [.lit (.bool false)], args := [d1, d2, d3] }
  | _ => none }
def BellCrewWrongFalsely : Prop := bellCrewRow.holds Tryz.pinned (OpenSpec.ofChange bellCrewWrong)

/-- 'laganlaw04.BellClashes': WHATEVER THE INPUT: true; the input reads as it did. -/
def bellClashesSpec : ChangeSpec := { name := "bellClashes", fn := fun _ => fun
  | [d1, d2] => { results := [.lit (.bool true)], args := [d1, d2] }
  | _ => none }
def bellClashesRow : OpenClaim := { program := "ytffladgmkiimjaagreatdoor", sum := "3fdd1a63bddc3a55f3443f8525f3cf8d80dd1beb5e0dea6a39be339a665944b1", func := "lagan/laganlaw04.BellClashes", spec := "bellClashes", unfollowed := true, recurses := true, named := ["lagan/bell.checks"], plainKeys := false, leaving := true, apart := false, laid := [("lagan/bell.checks", laid_lagan_bell_checks)] }
def BellClashesSaid : Prop := bellClashesRow.holds Tryz.pinned (OpenSpec.ofChange bellClashesSpec)

/-- ITS FALSE NEIGHBOUR: 'it returns false'. Refute it at one input. -/
def bellClashesWrong : ChangeSpec := { name := "bellClashes", fn := fun _ => fun
  | [d1, d2] => { results := [.lit (.bool false)], args := [d1, d2] }
  | _ => none }
def BellClashesWrongFalsely : Prop := bellClashesRow.holds Tryz.pinned (OpenSpec.ofChange bellClashesWrong)

/-- 'laganlaw04.BellAsked': WHATEVER THE INPUT: true; the input reads as it did. -/
def bellAskedSpec : ChangeSpec := { name := "bellAsked", fn := fun _ => fun
  | [d1, d2] => { results := [.lit (.bool true)], args := [d1, d2] }
  | _ => none }
def bellAskedRow : OpenClaim := { program := "ytffladgmkiimjaagreatdoor", sum := "3fdd1a63bddc3a55f3443f8525f3cf8d80dd1beb5e0dea6a39be339a665944b1", func := "lagan/laganlaw04.BellAsked", spec := "bellAsked", unfollowed := true, recurses := true, named := ["lagan/bell.checks"], plainKeys := false, leaving := true, apart := false, laid := [("lagan/bell.checks", laid_lagan_bell_checks)] }
def BellAskedSaid : Prop := bellAskedRow.holds Tryz.pinned (OpenSpec.ofChange bellAskedSpec)

/-- ITS FALSE NEIGHBOUR: 'it returns false'. Refute it at one input. -/
def bellAskedWrong : ChangeSpec := { name := "bellAsked", fn := fun _ => fun
  | [d1, d2] => { results := [.lit (.bool false)], args := [d1, d2] }
  | _ => none }
def BellAskedWrongFalsely : Prop := bellAskedRow.holds Tryz.pinned (OpenSpec.ofChange bellAskedWrong)

/-- 'laganlaw04.BellCases': WHATEVER THE INPUT: true; the input reads as it did. -/
def bellCasesSpec : ChangeSpec := { name := "bellCases", fn := fun _ => fun
  | [d1, d2, d3, d4] => { results := [.lit (.bool true)], args := [d1, d2, d3, d4] }
  | _ => none }
def bellCasesRow : OpenClaim := { program := "ytffladgmkiimjaagreatdoor", sum := "3fdd1a63bddc3a55f3443f8525f3cf8d80dd1beb5e0dea6a39be339a665944b1", func := "lagan/laganlaw04.BellCases", spec := "bellCases", unfollowed := true, recurses := true, named := ["lagan/bell.checks"], plainKeys := false, leaving := true, apart := false, laid := [("lagan/bell.checks", laid_lagan_bell_checks)] }
def BellCasesSaid : Prop := bellCasesRow.holds Tryz.pinned (OpenSpec.ofChange bellCasesSpec)

/-- ITS FALSE NEIGHBOUR: 'it returns false'. Refute it at one input. -/
def bellCasesWrong : ChangeSpec := { name := "bellCases", fn := fun _ => fun
  | [d1, d2, d3, d4] => { results := [.lit (.bool false)], args := [d1, d2, d3, d4] }
  | _ => none }
def BellCasesWrongFalsely : Prop := bellCasesRow.holds Tryz.pinned (OpenSpec.ofChange bellCasesWrong)

/-- 'laganlaw04.BellAnyOrder': WHATEVER THE INPUT: true; the input reads as it did. -/
def bellAnyOrderSpec : ChangeSpec := { name := "bellAnyOrder", fn := fun _ => fun
  | [d1, d2, d3, d4] => { results := [.lit (.bool true)], args := [d1, d2, d3, d4] }
  | _ => none }
def bellAnyOrderRow : OpenClaim := { program := "ytffladgmkiimjaagreatdoor", sum := "3fdd1a63bddc3a55f3443f8525f3cf8d80dd1beb5e0dea6a39be339a665944b1", func := "lagan/laganlaw04.BellAnyOrder", spec := "bellAnyOrder", unfollowed := true, recurses := true, named := ["lagan/bell.checks"], plainKeys := false, leaving := true, apart := false, laid := [("lagan/bell.checks", laid_lagan_bell_checks)] }
def BellAnyOrderSaid : Prop := bellAnyOrderRow.holds Tryz.pinned (OpenSpec.ofChange bellAnyOrderSpec)

/-- ITS FALSE NEIGHBOUR: 'it returns false'. Refute it at one input. -/
def bellAnyOrderWrong : ChangeSpec := { name := "bellAnyOrder", fn := fun _ => fun
  | [d1, d2, d3, d4] => { results := [.lit (.bool false)], args := [d1, d2, d3, d4] }
  | _ => none }
def BellAnyOrderWrongFalsely : Prop := bellAnyOrderRow.holds Tryz.pinned (OpenSpec.ofChange bellAnyOrderWrong)

/-- 'laganlaw04.BellPlays': WHATEVER THE INPUT: true; the input reads as it did. -/
def bellPlaysSpec : ChangeSpec := { name := "bellPlays", fn := fun _ => fun
  | [d1, d2, d3, d4] => { results := [.lit (.bool true)], args := [d1, d2, d3, d4] }
  | _ => none }
def bellPlaysRow : OpenClaim := { program := "ytffladgmkiimjaagreatdoor", sum := "3fdd1a63bddc3a55f3443f8525f3cf8d80dd1beb5e0dea6a39be339a665944b1", func := "lagan/laganlaw04.BellPlays", spec := "bellPlays", unfollowed := true, recurses := true, named := ["lagan/bell.checks"], plainKeys := false, leaving := true, apart := false, laid := [("lagan/bell.checks", laid_lagan_bell_checks)] }
def BellPlaysSaid : Prop := bellPlaysRow.holds Tryz.pinned (OpenSpec.ofChange bellPlaysSpec)

/-- ITS FALSE NEIGHBOUR: 'it returns false'. Refute it at one input. -/
def bellPlaysWrong : ChangeSpec := { name := "bellPlays", fn := fun _ => fun
  | [d1, d2, d3, d4] => { results := [.lit (.bool false)], args := [d1, d2, d3, d4] }
  | _ => none }
def BellPlaysWrongFalsely : Prop := bellPlaysRow.holds Tryz.pinned (OpenSpec.ofChange bellPlaysWrong)

/-- 'laganlaw04.BellNews': WHATEVER THE INPUT: true; the input reads as it did. -/
def bellNewsSpec : ChangeSpec := { name := "bellNews", fn := fun _ => fun
  | [d1, d2, d3, d4, d5] => { results := [.lit (.bool true)], args := [d1, d2, d3, d4, d5] }
  | _ => none }
def bellNewsRow : OpenClaim := { program := "ytffladgmkiimjaagreatdoor", sum := "3fdd1a63bddc3a55f3443f8525f3cf8d80dd1beb5e0dea6a39be339a665944b1", func := "lagan/laganlaw04.BellNews", spec := "bellNews", unfollowed := true, recurses := true, named := ["lagan/bell.checks"], plainKeys := false, leaving := true, apart := false, laid := [("lagan/bell.checks", laid_lagan_bell_checks)] }
def BellNewsSaid : Prop := bellNewsRow.holds Tryz.pinned (OpenSpec.ofChange bellNewsSpec)

/-- ITS FALSE NEIGHBOUR: 'it returns false'. Refute it at one input. -/
def bellNewsWrong : ChangeSpec := { name := "bellNews", fn := fun _ => fun
  | [d1, d2, d3, d4, d5] => { results := [.lit (.bool false)], args := [d1, d2, d3, d4, d5] }
  | _ => none }
def BellNewsWrongFalsely : Prop := bellNewsRow.holds Tryz.pinned (OpenSpec.ofChange bellNewsWrong)

/-- 'laganlaw04.BellReal': WHATEVER THE INPUT: true; the input reads as it did. -/
def bellRealSpec : ChangeSpec := { name := "bellReal", fn := fun _ => fun
  | [d1, d2, d3, d4, d5] => { results := [.lit (.bool true)], args := [d1, d2, d3, d4, d5] }
  | _ => none }
def bellRealRow : OpenClaim := { program := "ytffladgmkiimjaagreatdoor", sum := "3fdd1a63bddc3a55f3443f8525f3cf8d80dd1beb5e0dea6a39be339a665944b1", func := "lagan/laganlaw04.BellReal", spec := "bellReal", unfollowed := true, recurses := true, named := ["lagan/bell.checks"], plainKeys := false, leaving := true, apart := false, laid := [("lagan/bell.checks", laid_lagan_bell_checks)] }
def BellRealSaid : Prop := bellRealRow.holds Tryz.pinned (OpenSpec.ofChange bellRealSpec)

/-- ITS FALSE NEIGHBOUR: 'it returns false'. Refute it at one input. -/
def bellRealWrong : ChangeSpec := { name := "bellReal", fn := fun _ => fun
  | [d1, d2, d3, d4, d5] => { results := [.lit (.bool false)], args := [d1, d2, d3, d4, d5] }
  | _ => none }
def BellRealWrongFalsely : Prop := bellRealRow.holds Tryz.pinned (OpenSpec.ofChange bellRealWrong)

/-- 'laganlaw04.BellReached': WHATEVER THE INPUT: true; the input reads as it did. -/
def bellReachedSpec : ChangeSpec := { name := "bellReached", fn := fun _ => fun
  | [d1, d2, d3] => { results := [.lit (.bool true)], args := [d1, d2, d3] }
  | _ => none }
def bellReachedRow : OpenClaim := { program := "ytffladgmkiimjaagreatdoor", sum := "3fdd1a63bddc3a55f3443f8525f3cf8d80dd1beb5e0dea6a39be339a665944b1", func := "lagan/laganlaw04.BellReached", spec := "bellReached", unfollowed := true, recurses := true, named := ["lagan/bell.checks"], plainKeys := false, leaving := true, apart := false, laid := [("lagan/bell.checks", laid_lagan_bell_checks)] }
def BellReachedSaid : Prop := bellReachedRow.holds Tryz.pinned (OpenSpec.ofChange bellReachedSpec)

/-- ITS FALSE NEIGHBOUR: 'it returns false'. Refute it at one input. -/
def bellReachedWrong : ChangeSpec := { name := "bellReached", fn := fun _ => fun
  | [d1, d2, d3] => { results := [.lit (.bool false)], args := [d1, d2, d3] }
  | _ => none }
def BellReachedWrongFalsely : Prop := bellReachedRow.holds Tryz.pinned (OpenSpec.ofChange bellReachedWrong)

/-- 'laganlaw04.BellLearnt': WHATEVER THE INPUT: true; the input reads as it did. -/
def bellLearntSpec : ChangeSpec := { name := "bellLearnt", fn := fun _ => fun
  | [d1, d2, d3, d4, d5, d6, d7] => { results := [.lit (.bool true)], args := [d1, d2, d3, d4, d5, d6, d7] }
  | _ => none }
def bellLearntRow : OpenClaim := { program := "ytffladgmkiimjaagreatdoor", sum := "3fdd1a63bddc3a55f3443f8525f3cf8d80dd1beb5e0dea6a39be339a665944b1", func := "lagan/laganlaw04.BellLearnt", spec := "bellLearnt", unfollowed := true, recurses := true, named := ["lagan/bell.checks"], plainKeys := false, leaving := true, apart := false, laid := [("lagan/bell.checks", laid_lagan_bell_checks)] }
def BellLearntSaid : Prop := bellLearntRow.holds Tryz.pinned (OpenSpec.ofChange bellLearntSpec)

/-- ITS FALSE NEIGHBOUR: 'it returns false'. Refute it at one input. -/
def bellLearntWrong : ChangeSpec := { name := "bellLearnt", fn := fun _ => fun
  | [d1, d2, d3, d4, d5, d6, d7] => { results := [.lit (.bool false)], args := [d1, d2, d3, d4, d5, d6, d7] }
  | _ => none }
def BellLearntWrongFalsely : Prop := bellLearntRow.holds Tryz.pinned (OpenSpec.ofChange bellLearntWrong)

/- THE SECOND FORM. 'bulk': how many values and letters a reading holds, each counted each time it is reached (what is shared counts as often as it is met; a slice's spare places count too). A statement '..UptoSaid' is the law's where the arguments, and the package variables that the reading takes, are together of bulk at most 1048576: NARROWER than '..Said'. Prove '..Said' where nothing that the law and all that it calls make is longer than what came in: it says more and counts as full. Else prove '..UptoSaid'. A law counts once. -/
mutual
def uptoBulk {H : Type} : DataW H → Nat
  | .lit (.string bytes) => bytes.length + 1
  | .lit _ => 1
  | .nil => 1
  | .ptr d => uptoBulk d + 1
  | .slice elems spare => uptoBulkAll elems + uptoBulkAll spare + 1
  | .agg parts => uptoBulkAll parts + 1
  | .iface _ d => uptoBulk d + 1
  | .map entries => uptoBulkEntries entries + 1
  | .held _ => 1
def uptoBulkAll {H : Type} : List (DataW H) → Nat
  | [] => 0
  | d :: r => uptoBulk d + uptoBulkAll r
def uptoBulkEntries {H : Type} : List (Lit × DataW H) → Nat
  | [] => 0
  | x :: r => uptoBulkEntry x + uptoBulkEntries r
def uptoBulkEntry {H : Type} : Lit × DataW H → Nat
  | (.string bytes, d) => bytes.length + uptoBulk d + 1
  | (_, d) => uptoBulk d + 1
 end
def uptoSmall : (H : Type) → List (DataW H) → Bool := fun _ ds => decide (uptoBulkAll ds ≤ 1048576)
def OpenSpec.upto (s : _root_.Go.ChangeSpec) : _root_.Go.OpenSpec := { _root_.Go.OpenSpec.ofChange s with cond := some uptoSmall }

/-- 'laganlaw04.BellPlans', WHERE WHAT IT READS IS OF BULK AT MOST 1048576: true; the input reads as it did. -/
def bellPlansUptoRow : OpenClaim := { program := "ytffladgmkiimjaagreatdoor", sum := "3fdd1a63bddc3a55f3443f8525f3cf8d80dd1beb5e0dea6a39be339a665944b1", func := "lagan/laganlaw04.BellPlans", spec := "bellPlans", unfollowed := true, recurses := true, named := ["lagan/bell.checks"], plainKeys := false, leaving := true, apart := false, laid := [("lagan/bell.checks", laid_lagan_bell_checks)], narrowed := true }
def BellPlansUptoSaid : Prop := bellPlansUptoRow.holds Tryz.pinned (OpenSpec.upto bellPlansSpec)

/-- 'laganlaw04.BellPlayed', WHERE WHAT IT READS IS OF BULK AT MOST 1048576: true; the input reads as it did. -/
def bellPlayedUptoRow : OpenClaim := { program := "ytffladgmkiimjaagreatdoor", sum := "3fdd1a63bddc3a55f3443f8525f3cf8d80dd1beb5e0dea6a39be339a665944b1", func := "lagan/laganlaw04.BellPlayed", spec := "bellPlayed", unfollowed := true, recurses := true, named := ["lagan/bell.checks"], plainKeys := false, leaving := true, apart := false, laid := [("lagan/bell.checks", laid_lagan_bell_checks)], narrowed := true }
def BellPlayedUptoSaid : Prop := bellPlayedUptoRow.holds Tryz.pinned (OpenSpec.upto bellPlayedSpec)

/-- 'laganlaw04.BellMore', WHERE WHAT IT READS IS OF BULK AT MOST 1048576: true; the input reads as it did. -/
def bellMoreUptoRow : OpenClaim := { program := "ytffladgmkiimjaagreatdoor", sum := "3fdd1a63bddc3a55f3443f8525f3cf8d80dd1beb5e0dea6a39be339a665944b1", func := "lagan/laganlaw04.BellMore", spec := "bellMore", unfollowed := true, recurses := true, named := ["lagan/bell.checks"], plainKeys := false, leaving := true, apart := false, laid := [("lagan/bell.checks", laid_lagan_bell_checks)], narrowed := true }
def BellMoreUptoSaid : Prop := bellMoreUptoRow.holds Tryz.pinned (OpenSpec.upto bellMoreSpec)

/-- 'laganlaw04.BellPlanned', WHERE WHAT IT READS IS OF BULK AT MOST 1048576: true; the input reads as it did. -/
def bellPlannedUptoRow : OpenClaim := { program := "ytffladgmkiimjaagreatdoor", sum := "3fdd1a63bddc3a55f3443f8525f3cf8d80dd1beb5e0dea6a39be339a665944b1", func := "lagan/laganlaw04.BellPlanned", spec := "bellPlanned", unfollowed := true, recurses := true, named := ["lagan/bell.checks"], plainKeys := false, leaving := true, apart := false, laid := [("lagan/bell.checks", laid_lagan_bell_checks)], narrowed := true }
def BellPlannedUptoSaid : Prop := bellPlannedUptoRow.holds Tryz.pinned (OpenSpec.upto bellPlannedSpec)

/-- 'laganlaw04.BellDeep', WHERE WHAT IT READS IS OF BULK AT MOST 1048576: true; the input reads as it did. -/
def bellDeepUptoRow : OpenClaim := { program := "ytffladgmkiimjaagreatdoor", sum := "3fdd1a63bddc3a55f3443f8525f3cf8d80dd1beb5e0dea6a39be339a665944b1", func := "lagan/laganlaw04.BellDeep", spec := "bellDeep", unfollowed := true, recurses := true, named := ["lagan/bell.checks"], plainKeys := false, leaving := true, apart := false, laid := [("lagan/bell.checks", laid_lagan_bell_checks)], narrowed := true }
def BellDeepUptoSaid : Prop := bellDeepUptoRow.holds Tryz.pinned (OpenSpec.upto bellDeepSpec)

/-- 'laganlaw04.BellCrew', WHERE WHAT IT READS IS OF BULK AT MOST 1048576: true; the input reads as it did. -/
def bellCrewUptoRow : OpenClaim := { program := "ytffladgmkiimjaagreatdoor", sum := "3fdd1a63bddc3a55f3443f8525f3cf8d80dd1beb5e0dea6a39be339a665944b1", func := "lagan/laganlaw04.BellCrew", spec := "bellCrew", unfollowed := true, recurses := true, named := ["lagan/bell.checks"], plainKeys := false, leaving := true, apart := false, laid := [("lagan/bell.checks", laid_lagan_bell_checks)], narrowed := true }
def BellCrewUptoSaid : Prop := bellCrewUptoRow.holds Tryz.pinned (OpenSpec.upto bellCrewSpec)

/-- 'laganlaw04.BellClashes', WHERE WHAT IT READS IS OF BULK AT MOST 1048576: true; the input reads as it did. -/
def bellClashesUptoRow : OpenClaim := { program := "ytffladgmkiimjaagreatdoor", sum := "3fdd1a63bddc3a55f3443f8525f3cf8d80dd1beb5e0dea6a39be339a665944b1", func := "lagan/laganlaw04.BellClashes", spec := "bellClashes", unfollowed := true, recurses := true, named := ["lagan/bell.checks"], plainKeys := false, leaving := true, apart := false, laid := [("lagan/bell.checks", laid_lagan_bell_checks)], narrowed := true }
def BellClashesUptoSaid : Prop := bellClashesUptoRow.holds Tryz.pinned (OpenSpec.upto bellClashesSpec)

/-- 'laganlaw04.BellAsked', WHERE WHAT IT READS IS OF BULK AT MOST 1048576: true; the input reads as it did. -/
def bellAskedUptoRow : OpenClaim := { program := "ytffladgmkiimjaagreatdoor", sum := "3fdd1a63bddc3a55f3443f8525f3cf8d80dd1beb5e0dea6a39be339a665944b1", func := "lagan/laganlaw04.BellAsked", spec := "bellAsked", unfollowed := true, recurses := true, named := ["lagan/bell.checks"], plainKeys := false, leaving := true, apart := false, laid := [("lagan/bell.checks", laid_lagan_bell_checks)], narrowed := true }
def BellAskedUptoSaid : Prop := bellAskedUptoRow.holds Tryz.pinned (OpenSpec.upto bellAskedSpec)

/-- 'laganlaw04.BellCases', WHERE WHAT IT READS IS OF BULK AT MOST 1048576: true; the input reads as it did. -/
def bellCasesUptoRow : OpenClaim := { program := "ytffladgmkiimjaagreatdoor", sum := "3fdd1a63bddc3a55f3443f8525f3cf8d80dd1beb5e0dea6a39be339a665944b1", func := "lagan/laganlaw04.BellCases", spec := "bellCases", unfollowed := true, recurses := true, named := ["lagan/bell.checks"], plainKeys := false, leaving := true, apart := false, laid := [("lagan/bell.checks", laid_lagan_bell_checks)], narrowed := true }
def BellCasesUptoSaid : Prop := bellCasesUptoRow.holds Tryz.pinned (OpenSpec.upto bellCasesSpec)

/-- 'laganlaw04.BellAnyOrder', WHERE WHAT IT READS IS OF BULK AT MOST 1048576: true; the input reads as it did. -/
def bellAnyOrderUptoRow : OpenClaim := { program := "ytffladgmkiimjaagreatdoor", sum := "3fdd1a63bddc3a55f3443f8525f3cf8d80dd1beb5e0dea6a39be339a665944b1", func := "lagan/laganlaw04.BellAnyOrder", spec := "bellAnyOrder", unfollowed := true, recurses := true, named := ["lagan/bell.checks"], plainKeys := false, leaving := true, apart := false, laid := [("lagan/bell.checks", laid_lagan_bell_checks)], narrowed := true }
def BellAnyOrderUptoSaid : Prop := bellAnyOrderUptoRow.holds Tryz.pinned (OpenSpec.upto bellAnyOrderSpec)

/-- 'laganlaw04.BellPlays', WHERE WHAT IT READS IS OF BULK AT MOST 1048576: true; the input reads as it did. -/
def bellPlaysUptoRow : OpenClaim := { program := "ytffladgmkiimjaagreatdoor", sum := "3fdd1a63bddc3a55f3443f8525f3cf8d80dd1beb5e0dea6a39be339a665944b1", func := "lagan/laganlaw04.BellPlays", spec := "bellPlays", unfollowed := true, recurses := true, named := ["lagan/bell.checks"], plainKeys := false, leaving := true, apart := false, laid := [("lagan/bell.checks", laid_lagan_bell_checks)], narrowed := true }
def BellPlaysUptoSaid : Prop := bellPlaysUptoRow.holds Tryz.pinned (OpenSpec.upto bellPlaysSpec)

/-- 'laganlaw04.BellNews', WHERE WHAT IT READS IS OF BULK AT MOST 1048576: true; the input reads as it did. -/
def bellNewsUptoRow : OpenClaim := { program := "ytffladgmkiimjaagreatdoor", sum := "3fdd1a63bddc3a55f3443f8525f3cf8d80dd1beb5e0dea6a39be339a665944b1", func := "lagan/laganlaw04.BellNews", spec := "bellNews", unfollowed := true, recurses := true, named := ["lagan/bell.checks"], plainKeys := false, leaving := true, apart := false, laid := [("lagan/bell.checks", laid_lagan_bell_checks)], narrowed := true }
def BellNewsUptoSaid : Prop := bellNewsUptoRow.holds Tryz.pinned (OpenSpec.upto bellNewsSpec)

/-- 'laganlaw04.BellReal', WHERE WHAT IT READS IS OF BULK AT MOST 1048576: true; the input reads as it did. -/
def bellRealUptoRow : OpenClaim := { program := "ytffladgmkiimjaagreatdoor", sum := "3fdd1a63bddc3a55f3443f8525f3cf8d80dd1beb5e0dea6a39be339a665944b1", func := "lagan/laganlaw04.BellReal", spec := "bellReal", unfollowed := true, recurses := true, named := ["lagan/bell.checks"], plainKeys := false, leaving := true, apart := false, laid := [("lagan/bell.checks", laid_lagan_bell_checks)], narrowed := true }
def BellRealUptoSaid : Prop := bellRealUptoRow.holds Tryz.pinned (OpenSpec.upto bellRealSpec)

/-- 'laganlaw04.BellReached', WHERE WHAT IT READS IS OF BULK AT MOST 1048576: true; the input reads as it did. -/
def bellReachedUptoRow : OpenClaim := { program := "ytffladgmkiimjaagreatdoor", sum := "3fdd1a63bddc3a55f3443f8525f3cf8d80dd1beb5e0dea6a39be339a665944b1", func := "lagan/laganlaw04.BellReached", spec := "bellReached", unfollowed := true, recurses := true, named := ["lagan/bell.checks"], plainKeys := false, leaving := true, apart := false, laid := [("lagan/bell.checks", laid_lagan_bell_checks)], narrowed := true }
def BellReachedUptoSaid : Prop := bellReachedUptoRow.holds Tryz.pinned (OpenSpec.upto bellReachedSpec)

/-- 'laganlaw04.BellLearnt', WHERE WHAT IT READS IS OF BULK AT MOST 1048576: true; the input reads as it did. -/
def bellLearntUptoRow : OpenClaim := { program := "ytffladgmkiimjaagreatdoor", sum := "3fdd1a63bddc3a55f3443f8525f3cf8d80dd1beb5e0dea6a39be339a665944b1", func := "lagan/laganlaw04.BellLearnt", spec := "bellLearnt", unfollowed := true, recurses := true, named := ["lagan/bell.checks"], plainKeys := false, leaving := true, apart := false, laid := [("lagan/bell.checks", laid_lagan_bell_checks)], narrowed := true }
def BellLearntUptoSaid : Prop := bellLearntUptoRow.holds Tryz.pinned (OpenSpec.upto bellLearntSpec)

end Rows
end Go.Proofs.YtffladgmkiimjaaGreatDoor
