/-
  NARROWER THAN 'FOR EVERY INPUT', by the rows' own cells (each row's printed sentence says how): WindowTraces: laid · WindowPart: laid · WindowEver: laid · WindowTells: laid · WindowAt: laid · WindowCauses: laid · WindowAlike: laid · DiffTells: laid · DiffFates: laid · DiffJust: laid · DiffBetween: laid · JudgeInto: laid.
  DERIVED. THE GIVEN ROWS OF THIS SEAT. 12 by the template 'for every input the law returns true; each argument reads behind the call as it read before'; 0 by the template 'total and deterministic' (their statements: YtcognmloglhpcaaGreatDoorTotals.lean).
  GIVEN WITH THE SEED: the statements are not yours to turn. If you find one false, say at which input.
  Laid BY PROGRAM, IN A SANDBOX (cutbox-rows.mjs): the forced cells as the released guide's own fill.sh prints them over the translation 33264f3752c3b72d… (all of the seat's roots in one cut). By AI agents, Wed Nov 11 2026. No macro, syntax, notation, axiom, sorry.
-/
import Derived.Test.YtcognmloglhpcaaGreatDoorChecked
import GoSem.Claim
import GoSem.ClaimJoined
import GoSem.ClaimMapViews
import Derived.JoinedTies
import Derived.KernelRfl
namespace Go.Proofs.YtcognmloglhpcaaGreatDoor
/- THE CELL 'sum', in the pinned program and in every row, IS THE sha256 OF THE DUMP (.gsa) THAT YtcognmloglhpcaaGreatDoorProg.lean LOADS. Nothing in Lean hashes anything: it is a label: what it is worth is what the hold of that sum in a sandbox is worth. -/
noncomputable def Tryz.pinned : Pinned := { name := "ytcognmloglhpcaagreatdoor", sum := "33264f3752c3b72df9aca1351728aa1ded8c4f1a4c793a479cd7a96cba373ebc", checked := Tryz.checked }
namespace Rows
def none {H : Type} : Left H := { results := [], args := [] }

/- WHAT THE LISTED PACKAGE-LEVEL VARIABLES READ AS WHEN THE CALL BEGINS. Each datum BY PROGRAM (the guide's laid-datum.mjs) off the statement by which the dump's own 'gosem.cut.vars' lays the variable. In a bare row this is a premise. The card (YtcognmloglhpcaaGreatDoorCards.lean) ties it to the program's text. -/
def laid_spoor_walk_kinds {H : Type} : DataW H := .agg [.lit (.int .u8 3), .lit (.int .u8 4), .lit (.int .u8 1), .lit (.int .u8 2)]

/-- 'spoorlaw26.WindowTraces': WHATEVER THE INPUT: true; the input reads as it did. -/
def windowTracesSpec : ChangeSpec := { name := "windowTraces", fn := fun _ => fun
  | [d1, d2, d3, d4, d5] => { results := [.lit (.bool true)], args := [d1, d2, d3, d4, d5] }
  | _ => none }
def windowTracesRow : OpenClaim := { program := "ytcognmloglhpcaagreatdoor", sum := "33264f3752c3b72df9aca1351728aa1ded8c4f1a4c793a479cd7a96cba373ebc", func := "spoor/spoorlaw26.WindowTraces", spec := "windowTraces", inPlace := ["slices.overlaps[spoor/api.Route]", "slices.overlaps[spoor/api.Link]", "slices.overlaps[spoor/api.Router]", "slices.overlaps[spoor/api.Seat]"], unfollowed := true, recurses := true, named := ["spoor/walk.kinds"], apart := false, laid := [("spoor/walk.kinds", laid_spoor_walk_kinds)] }
def WindowTracesSaid : Prop := windowTracesRow.holds Tryz.pinned (OpenSpec.ofChange windowTracesSpec)

/-- ITS FALSE NEIGHBOUR: 'it returns false'. Refute it at one input. -/
def windowTracesWrong : ChangeSpec := { name := "windowTraces", fn := fun _ => fun
  | [d1, d2, d3, d4, d5] => { results := [.lit (.bool false)], args := [d1, d2, d3, d4, d5] }
  | _ => none }
def WindowTracesWrongFalsely : Prop := windowTracesRow.holds Tryz.pinned (OpenSpec.ofChange windowTracesWrong)

/-- 'spoorlaw26.WindowPart': WHATEVER THE INPUT: true; the input reads as it did. -/
def windowPartSpec : ChangeSpec := { name := "windowPart", fn := fun _ => fun
  | [d1, d2, d3, d4, d5, d6] => { results := [.lit (.bool true)], args := [d1, d2, d3, d4, d5, d6] }
  | _ => none }
def windowPartRow : OpenClaim := { program := "ytcognmloglhpcaagreatdoor", sum := "33264f3752c3b72df9aca1351728aa1ded8c4f1a4c793a479cd7a96cba373ebc", func := "spoor/spoorlaw26.WindowPart", spec := "windowPart", inPlace := ["slices.overlaps[spoor/api.Route]", "slices.overlaps[spoor/api.Link]", "slices.overlaps[spoor/api.Router]", "slices.overlaps[spoor/api.Seat]"], unfollowed := true, recurses := true, named := ["spoor/walk.kinds"], apart := false, laid := [("spoor/walk.kinds", laid_spoor_walk_kinds)] }
def WindowPartSaid : Prop := windowPartRow.holds Tryz.pinned (OpenSpec.ofChange windowPartSpec)

/-- ITS FALSE NEIGHBOUR: 'it returns false'. Refute it at one input. -/
def windowPartWrong : ChangeSpec := { name := "windowPart", fn := fun _ => fun
  | [d1, d2, d3, d4, d5, d6] => { results := [.lit (.bool false)], args := [d1, d2, d3, d4, d5, d6] }
  | _ => none }
def WindowPartWrongFalsely : Prop := windowPartRow.holds Tryz.pinned (OpenSpec.ofChange windowPartWrong)

/-- 'spoorlaw26.WindowEver': WHATEVER THE INPUT: true; the input reads as it did. -/
def windowEverSpec : ChangeSpec := { name := "windowEver", fn := fun _ => fun
  | [d1, d2, d3, d4, d5] => { results := [.lit (.bool true)], args := [d1, d2, d3, d4, d5] }
  | _ => none }
def windowEverRow : OpenClaim := { program := "ytcognmloglhpcaagreatdoor", sum := "33264f3752c3b72df9aca1351728aa1ded8c4f1a4c793a479cd7a96cba373ebc", func := "spoor/spoorlaw26.WindowEver", spec := "windowEver", inPlace := ["slices.overlaps[spoor/api.Route]", "slices.overlaps[spoor/api.Link]", "slices.overlaps[spoor/api.Router]", "slices.overlaps[spoor/api.Seat]"], unfollowed := true, recurses := true, named := ["spoor/walk.kinds"], apart := false, laid := [("spoor/walk.kinds", laid_spoor_walk_kinds)] }
def WindowEverSaid : Prop := windowEverRow.holds Tryz.pinned (OpenSpec.ofChange windowEverSpec)

/-- ITS FALSE NEIGHBOUR: 'it returns false'. Refute it at one input. -/
def windowEverWrong : ChangeSpec := { name := "windowEver", fn := fun _ => fun
  | [d1, d2, d3, d4, d5] => { results := [.lit (.bool false)], args := [d1, d2, d3, d4, d5] }
  | _ => none }
def WindowEverWrongFalsely : Prop := windowEverRow.holds Tryz.pinned (OpenSpec.ofChange windowEverWrong)

/-- 'spoorlaw26.WindowTells': WHATEVER THE INPUT: true; the input reads as it did. -/
def windowTellsSpec : ChangeSpec := { name := "windowTells", fn := fun _ => fun
  | [d1, d2, d3, d4, d5, d6] => { results := [.lit (.bool true)], args := [d1, d2, d3, d4, d5, d6] }
  | _ => none }
def windowTellsRow : OpenClaim := { program := "ytcognmloglhpcaagreatdoor", sum := "33264f3752c3b72df9aca1351728aa1ded8c4f1a4c793a479cd7a96cba373ebc", func := "spoor/spoorlaw26.WindowTells", spec := "windowTells", inPlace := ["slices.overlaps[spoor/api.Route]", "slices.overlaps[spoor/api.Link]", "slices.overlaps[spoor/api.Router]", "slices.overlaps[spoor/api.Seat]"], unfollowed := true, recurses := true, named := ["spoor/walk.kinds"], apart := false, laid := [("spoor/walk.kinds", laid_spoor_walk_kinds)] }
def WindowTellsSaid : Prop := windowTellsRow.holds Tryz.pinned (OpenSpec.ofChange windowTellsSpec)

/-- ITS FALSE NEIGHBOUR: 'it returns false'. Refute it at one input. -/
def windowTellsWrong : ChangeSpec := { name := "windowTells", fn := fun _ => fun
  | [d1, d2, d3, d4, d5, d6] => { results := [.lit (.bool false)], args := [d1, d2, d3, d4, d5, d6] }
  | _ => none }
def WindowTellsWrongFalsely : Prop := windowTellsRow.holds Tryz.pinned (OpenSpec.ofChange windowTellsWrong)

/-- 'spoorlaw26.WindowAt': WHATEVER THE INPUT: true; the input reads as it did. -/
def windowAtSpec : ChangeSpec := { name := "windowAt", fn := fun _ => fun
  | [d1, d2, d3, d4, d5, d6] => { results := [.lit (.bool true)], args := [d1, d2, d3, d4, d5, d6] }
  | _ => none }
def windowAtRow : OpenClaim := { program := "ytcognmloglhpcaagreatdoor", sum := "33264f3752c3b72df9aca1351728aa1ded8c4f1a4c793a479cd7a96cba373ebc", func := "spoor/spoorlaw26.WindowAt", spec := "windowAt", inPlace := ["slices.overlaps[spoor/api.Route]", "slices.overlaps[spoor/api.Link]", "slices.overlaps[spoor/api.Router]", "slices.overlaps[spoor/api.Seat]"], unfollowed := true, recurses := true, named := ["spoor/walk.kinds"], apart := false, laid := [("spoor/walk.kinds", laid_spoor_walk_kinds)] }
def WindowAtSaid : Prop := windowAtRow.holds Tryz.pinned (OpenSpec.ofChange windowAtSpec)

/-- ITS FALSE NEIGHBOUR: 'it returns false'. Refute it at one input. -/
def windowAtWrong : ChangeSpec := { name := "windowAt", fn := fun _ => fun
  | [d1, d2, d3, d4, d5, d6] => { results := [.lit (.bool false)], args := [d1, d2, d3, d4, d5, d6] }
  | _ => none }
def WindowAtWrongFalsely : Prop := windowAtRow.holds Tryz.pinned (OpenSpec.ofChange windowAtWrong)

/-- 'spoorlaw26.WindowCauses': WHATEVER THE INPUT: true; the input reads as it did. -/
def windowCausesSpec : ChangeSpec := { name := "windowCauses", fn := fun _ => fun
  | [d1, d2, d3, d4, d5] => { results := [.lit (.bool true)], args := [d1, d2, d3, d4, d5] }
  | _ => none }
def windowCausesRow : OpenClaim := { program := "ytcognmloglhpcaagreatdoor", sum := "33264f3752c3b72df9aca1351728aa1ded8c4f1a4c793a479cd7a96cba373ebc", func := "spoor/spoorlaw26.WindowCauses", spec := "windowCauses", inPlace := ["slices.overlaps[spoor/api.Route]", "slices.overlaps[spoor/api.Link]", "slices.overlaps[spoor/api.Router]", "slices.overlaps[spoor/api.Seat]"], unfollowed := true, recurses := true, named := ["spoor/walk.kinds"], apart := false, laid := [("spoor/walk.kinds", laid_spoor_walk_kinds)] }
def WindowCausesSaid : Prop := windowCausesRow.holds Tryz.pinned (OpenSpec.ofChange windowCausesSpec)

/-- ITS FALSE NEIGHBOUR: 'it returns false'. Refute it at one input. -/
def windowCausesWrong : ChangeSpec := { name := "windowCauses", fn := fun _ => fun
  | [d1, d2, d3, d4, d5] => { results := [.lit (.bool false)], args := [d1, d2, d3, d4, d5] }
  | _ => none }
def WindowCausesWrongFalsely : Prop := windowCausesRow.holds Tryz.pinned (OpenSpec.ofChange windowCausesWrong)

/-- 'spoorlaw26.WindowAlike': WHATEVER THE INPUT: true; the input reads as it did. -/
def windowAlikeSpec : ChangeSpec := { name := "windowAlike", fn := fun _ => fun
  | [d1, d2, d3, d4, d5, d6] => { results := [.lit (.bool true)], args := [d1, d2, d3, d4, d5, d6] }
  | _ => none }
def windowAlikeRow : OpenClaim := { program := "ytcognmloglhpcaagreatdoor", sum := "33264f3752c3b72df9aca1351728aa1ded8c4f1a4c793a479cd7a96cba373ebc", func := "spoor/spoorlaw26.WindowAlike", spec := "windowAlike", inPlace := ["slices.overlaps[spoor/api.Route]", "slices.overlaps[spoor/api.Link]", "slices.overlaps[spoor/api.Router]", "slices.overlaps[spoor/api.Seat]", "math/bits.Add64"], unfollowed := true, recurses := true, named := ["spoor/walk.kinds"], apart := false, laid := [("spoor/walk.kinds", laid_spoor_walk_kinds)] }
def WindowAlikeSaid : Prop := windowAlikeRow.holds Tryz.pinned (OpenSpec.ofChange windowAlikeSpec)

/-- ITS FALSE NEIGHBOUR: 'it returns false'. Refute it at one input. -/
def windowAlikeWrong : ChangeSpec := { name := "windowAlike", fn := fun _ => fun
  | [d1, d2, d3, d4, d5, d6] => { results := [.lit (.bool false)], args := [d1, d2, d3, d4, d5, d6] }
  | _ => none }
def WindowAlikeWrongFalsely : Prop := windowAlikeRow.holds Tryz.pinned (OpenSpec.ofChange windowAlikeWrong)

/-- 'spoorlaw27.DiffTells': WHATEVER THE INPUT: true; the input reads as it did. -/
def diffTellsSpec : ChangeSpec := { name := "diffTells", fn := fun _ => fun
  | [d1, d2, d3, d4, d5, d6] => { results := [.lit (.bool true)], args := [d1, d2, d3, d4, d5, d6] }
  | _ => none }
def diffTellsRow : OpenClaim := { program := "ytcognmloglhpcaagreatdoor", sum := "33264f3752c3b72df9aca1351728aa1ded8c4f1a4c793a479cd7a96cba373ebc", func := "spoor/spoorlaw27.DiffTells", spec := "diffTells", inPlace := ["slices.overlaps[spoor/api.Route]", "slices.overlaps[spoor/api.Link]", "slices.overlaps[spoor/api.Router]", "slices.overlaps[spoor/api.Seat]", "math/bits.Add64", "math/bits.Sub64"], unfollowed := true, recurses := true, named := ["spoor/walk.kinds"], apart := false, laid := [("spoor/walk.kinds", laid_spoor_walk_kinds)] }
def DiffTellsSaid : Prop := diffTellsRow.holds Tryz.pinned (OpenSpec.ofChange diffTellsSpec)

/-- ITS FALSE NEIGHBOUR: 'it returns false'. Refute it at one input. -/
def diffTellsWrong : ChangeSpec := { name := "diffTells", fn := fun _ => fun
  | [d1, d2, d3, d4, d5, d6] => { results := [.lit (.bool false)], args := [d1, d2, d3, d4, d5, d6] }
  | _ => none }
def DiffTellsWrongFalsely : Prop := diffTellsRow.holds Tryz.pinned (OpenSpec.ofChange diffTellsWrong)

/-- 'spoorlaw27.DiffFates': WHATEVER THE INPUT: true; the input reads as it did. -/
def diffFatesSpec : ChangeSpec := { name := "diffFates", fn := fun _ => fun
  | [d1, d2, d3, d4, d5, d6] => { results := [.lit (.bool true)], args := [d1, d2, d3, d4, d5, d6] }
  | _ => none }
def diffFatesRow : OpenClaim := { program := "ytcognmloglhpcaagreatdoor", sum := "33264f3752c3b72df9aca1351728aa1ded8c4f1a4c793a479cd7a96cba373ebc", func := "spoor/spoorlaw27.DiffFates", spec := "diffFates", inPlace := ["slices.overlaps[spoor/api.Route]", "slices.overlaps[spoor/api.Link]", "slices.overlaps[spoor/api.Router]", "slices.overlaps[spoor/api.Seat]", "math/bits.Add64", "math/bits.Sub64"], unfollowed := true, recurses := true, named := ["spoor/walk.kinds"], apart := false, laid := [("spoor/walk.kinds", laid_spoor_walk_kinds)] }
def DiffFatesSaid : Prop := diffFatesRow.holds Tryz.pinned (OpenSpec.ofChange diffFatesSpec)

/-- ITS FALSE NEIGHBOUR: 'it returns false'. Refute it at one input. -/
def diffFatesWrong : ChangeSpec := { name := "diffFates", fn := fun _ => fun
  | [d1, d2, d3, d4, d5, d6] => { results := [.lit (.bool false)], args := [d1, d2, d3, d4, d5, d6] }
  | _ => none }
def DiffFatesWrongFalsely : Prop := diffFatesRow.holds Tryz.pinned (OpenSpec.ofChange diffFatesWrong)

/-- 'spoorlaw27.DiffJust': WHATEVER THE INPUT: true; the input reads as it did. -/
def diffJustSpec : ChangeSpec := { name := "diffJust", fn := fun _ => fun
  | [d1, d2, d3, d4, d5, d6] => { results := [.lit (.bool true)], args := [d1, d2, d3, d4, d5, d6] }
  | _ => none }
def diffJustRow : OpenClaim := { program := "ytcognmloglhpcaagreatdoor", sum := "33264f3752c3b72df9aca1351728aa1ded8c4f1a4c793a479cd7a96cba373ebc", func := "spoor/spoorlaw27.DiffJust", spec := "diffJust", inPlace := ["slices.overlaps[spoor/api.Route]", "slices.overlaps[spoor/api.Link]", "slices.overlaps[spoor/api.Router]", "slices.overlaps[spoor/api.Seat]", "math/bits.Add64", "math/bits.Sub64"], unfollowed := true, recurses := true, named := ["spoor/walk.kinds"], apart := false, laid := [("spoor/walk.kinds", laid_spoor_walk_kinds)] }
def DiffJustSaid : Prop := diffJustRow.holds Tryz.pinned (OpenSpec.ofChange diffJustSpec)

/-- ITS FALSE NEIGHBOUR: 'it returns false'. Refute it at one input. -/
def diffJustWrong : ChangeSpec := { name := "diffJust", fn := fun _ => fun
  | [d1, d2, d3, d4, d5, d6] => { results := [.lit (.bool false)], args := [d1, d2, d3, d4, d5, d6] }
  | _ => none }
def DiffJustWrongFalsely : Prop := diffJustRow.holds Tryz.pinned (OpenSpec.ofChange diffJustWrong)

/-- 'spoorlaw27.DiffBetween': WHATEVER THE INPUT: true; the input reads as it did. -/
def diffBetweenSpec : ChangeSpec := { name := "diffBetween", fn := fun _ => fun
  | [d1, d2, d3, d4, d5, d6] => { results := [.lit (.bool true)], args := [d1, d2, d3, d4, d5, d6] }
  | _ => none }
def diffBetweenRow : OpenClaim := { program := "ytcognmloglhpcaagreatdoor", sum := "33264f3752c3b72df9aca1351728aa1ded8c4f1a4c793a479cd7a96cba373ebc", func := "spoor/spoorlaw27.DiffBetween", spec := "diffBetween", inPlace := ["slices.overlaps[spoor/api.Route]", "slices.overlaps[spoor/api.Link]", "slices.overlaps[spoor/api.Router]", "slices.overlaps[spoor/api.Seat]", "math/bits.Add64", "math/bits.Sub64"], unfollowed := true, recurses := true, named := ["spoor/walk.kinds"], apart := false, laid := [("spoor/walk.kinds", laid_spoor_walk_kinds)] }
def DiffBetweenSaid : Prop := diffBetweenRow.holds Tryz.pinned (OpenSpec.ofChange diffBetweenSpec)

/-- ITS FALSE NEIGHBOUR: 'it returns false'. Refute it at one input. -/
def diffBetweenWrong : ChangeSpec := { name := "diffBetween", fn := fun _ => fun
  | [d1, d2, d3, d4, d5, d6] => { results := [.lit (.bool false)], args := [d1, d2, d3, d4, d5, d6] }
  | _ => none }
def DiffBetweenWrongFalsely : Prop := diffBetweenRow.holds Tryz.pinned (OpenSpec.ofChange diffBetweenWrong)

/-- 'spoorlaw24.JudgeInto': WHATEVER THE INPUT: true; the input reads as it did. -/
def judgeIntoSpec : ChangeSpec := { name := "judgeInto", fn := fun _ => fun
  | [d1, d2, d3, d4] => { results := [.lit (.bool true)], args := [d1, d2, d3, d4] }
  | _ => none }
def judgeIntoRow : OpenClaim := { program := "ytcognmloglhpcaagreatdoor", sum := "33264f3752c3b72df9aca1351728aa1ded8c4f1a4c793a479cd7a96cba373ebc", func := "spoor/spoorlaw24.JudgeInto", spec := "judgeInto", unfollowed := true, recurses := true, named := ["spoor/walk.kinds"], apart := false, laid := [("spoor/walk.kinds", laid_spoor_walk_kinds)] }
def JudgeIntoSaid : Prop := judgeIntoRow.holds Tryz.pinned (OpenSpec.ofChange judgeIntoSpec)

/-- ITS FALSE NEIGHBOUR: 'it returns false'. Refute it at one input. -/
def judgeIntoWrong : ChangeSpec := { name := "judgeInto", fn := fun _ => fun
  | [d1, d2, d3, d4] => { results := [.lit (.bool false)], args := [d1, d2, d3, d4] }
  | _ => none }
def JudgeIntoWrongFalsely : Prop := judgeIntoRow.holds Tryz.pinned (OpenSpec.ofChange judgeIntoWrong)

/- THE SECOND FORM. 'bulk': how many values and letters a reading holds, each counted each time it is reached (what is shared counts as often as it is met; a slice's spare places count too). A statement '..UptoSaid' is the law's where the arguments, and the package variables that the reading takes, are together of bulk at most 1048576: NARROWER than '..Said'. Prove '..Said' where nothing that the law and all that it calls make is longer than what came in: it says more and counts as full. Else prove '..UptoSaid'. A law counts once. -/
mutual
def uptoBulk {H : Type} : DataW H → Nat
  | .lit (.string bytes) => bytes.length + 1
  | .lit _ => 1
  | .nil => 1
  | .ptr d => uptoBulk d + 1
  | .slice elems spare => uptoBulkAll elems + uptoBulkAll spare + 1
  | .agg parts => uptoBulkAll parts + 1
  | .iface _ d => uptoBulk d + 1
  | .map entries => uptoBulkEntries entries + 1
  | .held _ => 1
def uptoBulkAll {H : Type} : List (DataW H) → Nat
  | [] => 0
  | d :: r => uptoBulk d + uptoBulkAll r
def uptoBulkEntries {H : Type} : List (Lit × DataW H) → Nat
  | [] => 0
  | x :: r => uptoBulkEntry x + uptoBulkEntries r
def uptoBulkEntry {H : Type} : Lit × DataW H → Nat
  | (.string bytes, d) => bytes.length + uptoBulk d + 1
  | (_, d) => uptoBulk d + 1
 end
def uptoSmall : (H : Type) → List (DataW H) → Bool := fun _ ds => decide (uptoBulkAll ds ≤ 1048576)
def OpenSpec.upto (s : _root_.Go.ChangeSpec) : _root_.Go.OpenSpec := { _root_.Go.OpenSpec.ofChange s with cond := some uptoSmall }

/-- 'spoorlaw26.WindowTraces', WHERE WHAT IT READS IS OF BULK AT MOST 1048576: true; the input reads as it did. -/
def windowTracesUptoRow : OpenClaim := { program := "ytcognmloglhpcaagreatdoor", sum := "33264f3752c3b72df9aca1351728aa1ded8c4f1a4c793a479cd7a96cba373ebc", func := "spoor/spoorlaw26.WindowTraces", spec := "windowTraces", inPlace := ["slices.overlaps[spoor/api.Route]", "slices.overlaps[spoor/api.Link]", "slices.overlaps[spoor/api.Router]", "slices.overlaps[spoor/api.Seat]"], unfollowed := true, recurses := true, named := ["spoor/walk.kinds"], apart := false, laid := [("spoor/walk.kinds", laid_spoor_walk_kinds)], narrowed := true }
def WindowTracesUptoSaid : Prop := windowTracesUptoRow.holds Tryz.pinned (OpenSpec.upto windowTracesSpec)

/-- 'spoorlaw26.WindowPart', WHERE WHAT IT READS IS OF BULK AT MOST 1048576: true; the input reads as it did. -/
def windowPartUptoRow : OpenClaim := { program := "ytcognmloglhpcaagreatdoor", sum := "33264f3752c3b72df9aca1351728aa1ded8c4f1a4c793a479cd7a96cba373ebc", func := "spoor/spoorlaw26.WindowPart", spec := "windowPart", inPlace := ["slices.overlaps[spoor/api.Route]", "slices.overlaps[spoor/api.Link]", "slices.overlaps[spoor/api.Router]", "slices.overlaps[spoor/api.Seat]"], unfollowed := true, recurses := true, named := ["spoor/walk.kinds"], apart := false, laid := [("spoor/walk.kinds", laid_spoor_walk_kinds)], narrowed := true }
def WindowPartUptoSaid : Prop := windowPartUptoRow.holds Tryz.pinned (OpenSpec.upto windowPartSpec)

/-- 'spoorlaw26.WindowEver', WHERE WHAT IT READS IS OF BULK AT MOST 1048576: true; the input reads as it did. -/
def windowEverUptoRow : OpenClaim := { program := "ytcognmloglhpcaagreatdoor", sum := "33264f3752c3b72df9aca1351728aa1ded8c4f1a4c793a479cd7a96cba373ebc", func := "spoor/spoorlaw26.WindowEver", spec := "windowEver", inPlace := ["slices.overlaps[spoor/api.Route]", "slices.overlaps[spoor/api.Link]", "slices.overlaps[spoor/api.Router]", "slices.overlaps[spoor/api.Seat]"], unfollowed := true, recurses := true, named := ["spoor/walk.kinds"], apart := false, laid := [("spoor/walk.kinds", laid_spoor_walk_kinds)], narrowed := true }
def WindowEverUptoSaid : Prop := windowEverUptoRow.holds Tryz.pinned (OpenSpec.upto windowEverSpec)

/-- 'spoorlaw26.WindowTells', WHERE WHAT IT READS IS OF BULK AT MOST 1048576: true; the input reads as it did. -/
def windowTellsUptoRow : OpenClaim := { program := "ytcognmloglhpcaagreatdoor", sum := "33264f3752c3b72df9aca1351728aa1ded8c4f1a4c793a479cd7a96cba373ebc", func := "spoor/spoorlaw26.WindowTells", spec := "windowTells", inPlace := ["slices.overlaps[spoor/api.Route]", "slices.overlaps[spoor/api.Link]", "slices.overlaps[spoor/api.Router]", "slices.overlaps[spoor/api.Seat]"], unfollowed := true, recurses := true, named := ["spoor/walk.kinds"], apart := false, laid := [("spoor/walk.kinds", laid_spoor_walk_kinds)], narrowed := true }
def WindowTellsUptoSaid : Prop := windowTellsUptoRow.holds Tryz.pinned (OpenSpec.upto windowTellsSpec)

/-- 'spoorlaw26.WindowAt', WHERE WHAT IT READS IS OF BULK AT MOST 1048576: true; the input reads as it did. -/
def windowAtUptoRow : OpenClaim := { program := "ytcognmloglhpcaagreatdoor", sum := "33264f3752c3b72df9aca1351728aa1ded8c4f1a4c793a479cd7a96cba373ebc", func := "spoor/spoorlaw26.WindowAt", spec := "windowAt", inPlace := ["slices.overlaps[spoor/api.Route]", "slices.overlaps[spoor/api.Link]", "slices.overlaps[spoor/api.Router]", "slices.overlaps[spoor/api.Seat]"], unfollowed := true, recurses := true, named := ["spoor/walk.kinds"], apart := false, laid := [("spoor/walk.kinds", laid_spoor_walk_kinds)], narrowed := true }
def WindowAtUptoSaid : Prop := windowAtUptoRow.holds Tryz.pinned (OpenSpec.upto windowAtSpec)

/-- 'spoorlaw26.WindowCauses', WHERE WHAT IT READS IS OF BULK AT MOST 1048576: true; the input reads as it did. -/
def windowCausesUptoRow : OpenClaim := { program := "ytcognmloglhpcaagreatdoor", sum := "33264f3752c3b72df9aca1351728aa1ded8c4f1a4c793a479cd7a96cba373ebc", func := "spoor/spoorlaw26.WindowCauses", spec := "windowCauses", inPlace := ["slices.overlaps[spoor/api.Route]", "slices.overlaps[spoor/api.Link]", "slices.overlaps[spoor/api.Router]", "slices.overlaps[spoor/api.Seat]"], unfollowed := true, recurses := true, named := ["spoor/walk.kinds"], apart := false, laid := [("spoor/walk.kinds", laid_spoor_walk_kinds)], narrowed := true }
def WindowCausesUptoSaid : Prop := windowCausesUptoRow.holds Tryz.pinned (OpenSpec.upto windowCausesSpec)

/-- 'spoorlaw26.WindowAlike', WHERE WHAT IT READS IS OF BULK AT MOST 1048576: true; the input reads as it did. -/
def windowAlikeUptoRow : OpenClaim := { program := "ytcognmloglhpcaagreatdoor", sum := "33264f3752c3b72df9aca1351728aa1ded8c4f1a4c793a479cd7a96cba373ebc", func := "spoor/spoorlaw26.WindowAlike", spec := "windowAlike", inPlace := ["slices.overlaps[spoor/api.Route]", "slices.overlaps[spoor/api.Link]", "slices.overlaps[spoor/api.Router]", "slices.overlaps[spoor/api.Seat]", "math/bits.Add64"], unfollowed := true, recurses := true, named := ["spoor/walk.kinds"], apart := false, laid := [("spoor/walk.kinds", laid_spoor_walk_kinds)], narrowed := true }
def WindowAlikeUptoSaid : Prop := windowAlikeUptoRow.holds Tryz.pinned (OpenSpec.upto windowAlikeSpec)

/-- 'spoorlaw27.DiffTells', WHERE WHAT IT READS IS OF BULK AT MOST 1048576: true; the input reads as it did. -/
def diffTellsUptoRow : OpenClaim := { program := "ytcognmloglhpcaagreatdoor", sum := "33264f3752c3b72df9aca1351728aa1ded8c4f1a4c793a479cd7a96cba373ebc", func := "spoor/spoorlaw27.DiffTells", spec := "diffTells", inPlace := ["slices.overlaps[spoor/api.Route]", "slices.overlaps[spoor/api.Link]", "slices.overlaps[spoor/api.Router]", "slices.overlaps[spoor/api.Seat]", "math/bits.Add64", "math/bits.Sub64"], unfollowed := true, recurses := true, named := ["spoor/walk.kinds"], apart := false, laid := [("spoor/walk.kinds", laid_spoor_walk_kinds)], narrowed := true }
def DiffTellsUptoSaid : Prop := diffTellsUptoRow.holds Tryz.pinned (OpenSpec.upto diffTellsSpec)

/-- 'spoorlaw27.DiffFates', WHERE WHAT IT READS IS OF BULK AT MOST 1048576: true; the input reads as it did. -/
def diffFatesUptoRow : OpenClaim := { program := "ytcognmloglhpcaagreatdoor", sum := "33264f3752c3b72df9aca1351728aa1ded8c4f1a4c793a479cd7a96cba373ebc", func := "spoor/spoorlaw27.DiffFates", spec := "diffFates", inPlace := ["slices.overlaps[spoor/api.Route]", "slices.overlaps[spoor/api.Link]", "slices.overlaps[spoor/api.Router]", "slices.overlaps[spoor/api.Seat]", "math/bits.Add64", "math/bits.Sub64"], unfollowed := true, recurses := true, named := ["spoor/walk.kinds"], apart := false, laid := [("spoor/walk.kinds", laid_spoor_walk_kinds)], narrowed := true }
def DiffFatesUptoSaid : Prop := diffFatesUptoRow.holds Tryz.pinned (OpenSpec.upto diffFatesSpec)

/-- 'spoorlaw27.DiffJust', WHERE WHAT IT READS IS OF BULK AT MOST 1048576: true; the input reads as it did. -/
def diffJustUptoRow : OpenClaim := { program := "ytcognmloglhpcaagreatdoor", sum := "33264f3752c3b72df9aca1351728aa1ded8c4f1a4c793a479cd7a96cba373ebc", func := "spoor/spoorlaw27.DiffJust", spec := "diffJust", inPlace := ["slices.overlaps[spoor/api.Route]", "slices.overlaps[spoor/api.Link]", "slices.overlaps[spoor/api.Router]", "slices.overlaps[spoor/api.Seat]", "math/bits.Add64", "math/bits.Sub64"], unfollowed := true, recurses := true, named := ["spoor/walk.kinds"], apart := false, laid := [("spoor/walk.kinds", laid_spoor_walk_kinds)], narrowed := true }
def DiffJustUptoSaid : Prop := diffJustUptoRow.holds Tryz.pinned (OpenSpec.upto diffJustSpec)

/-- 'spoorlaw27.DiffBetween', WHERE WHAT IT READS IS OF BULK AT MOST 1048576: true; the input reads as it did. -/
def diffBetweenUptoRow : OpenClaim := { program := "ytcognmloglhpcaagreatdoor", sum := "33264f3752c3b72df9aca1351728aa1ded8c4f1a4c793a479cd7a96cba373ebc", func := "spoor/spoorlaw27.DiffBetween", spec := "diffBetween", inPlace := ["slices.overlaps[spoor/api.Route]", "slices.overlaps[spoor/api.Link]", "slices.overlaps[spoor/api.Router]", "slices.overlaps[spoor/api.Seat]", "math/bits.Add64", "math/bits.Sub64"], unfollowed := true, recurses := true, named := ["spoor/walk.kinds"], apart := false, laid := [("spoor/walk.kinds", laid_spoor_walk_kinds)], narrowed := true }
def DiffBetweenUptoSaid : Prop := diffBetweenUptoRow.holds Tryz.pinned (OpenSpec.upto diffBetweenSpec)

/-- 'spoorlaw24.JudgeInto', WHERE WHAT IT READS IS OF BULK AT MOST 1048576: true; the input reads as it did. -/
def judgeIntoUptoRow : OpenClaim := { program := "ytcognmloglhpcaagreatdoor", sum := "33264f3752c3b72df9aca1351728aa1ded8c4f1a4c793a479cd7a96cba373ebc", func := "spoor/spoorlaw24.JudgeInto", spec := "judgeInto", unfollowed := true, recurses := true, named := ["spoor/walk.kinds"], apart := false, laid := [("spoor/walk.kinds", laid_spoor_walk_kinds)], narrowed := true }
def JudgeIntoUptoSaid : Prop := judgeIntoUptoRow.holds Tryz.pinned (OpenSpec.upto judgeIntoSpec)

end Rows
end Go.Proofs.YtcognmloglhpcaaGreatDoor
