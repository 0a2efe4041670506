/-
  NARROWER THAN 'FOR EVERY INPUT', by the rows' own cells (each row's printed sentence says how): JudgeWalks: laid · JudgeRound: laid.
  DERIVED. THE GIVEN ROWS OF THIS SEAT. 2 by the template 'for every input the law returns true; each argument reads behind the call as it read before'; 0 by the template 'total and deterministic' (their statements: YtnoggcmfnmmjcaaGreatDoorTotals.lean).
  GIVEN WITH THE SEED: the statements are not yours to turn. If you find one false, say at which input.
  Laid BY PROGRAM, IN A SANDBOX (cutbox-rows.mjs): the forced cells as the released guide's own fill.sh prints them over the translation e2ebb9311e627c88… (all of the seat's roots in one cut). By AI agents, Wed Nov 11 2026. No macro, syntax, notation, axiom, sorry.
-/
import Derived.Test.YtnoggcmfnmmjcaaGreatDoorChecked
import GoSem.Claim
import GoSem.ClaimJoined
import GoSem.ClaimMapViews
import Derived.JoinedTies
import Derived.KernelRfl
namespace Go.Proofs.YtnoggcmfnmmjcaaGreatDoor
/- THE CELL 'sum', in the pinned program and in every row, IS THE sha256 OF THE DUMP (.gsa) THAT YtnoggcmfnmmjcaaGreatDoorProg.lean LOADS. Nothing in Lean hashes anything: it is a label: what it is worth is what the hold of that sum in a sandbox is worth. -/
noncomputable def Tryz.pinned : Pinned := { name := "ytnoggcmfnmmjcaagreatdoor", sum := "e2ebb9311e627c88e9ea1b5fa91e883f7030261926386b545527c4bf3e7ac923", checked := Tryz.checked }
namespace Rows
def none {H : Type} : Left H := { results := [], args := [] }

/- WHAT THE LISTED PACKAGE-LEVEL VARIABLES READ AS WHEN THE CALL BEGINS. Each datum BY PROGRAM (the guide's laid-datum.mjs) off the statement by which the dump's own 'gosem.cut.vars' lays the variable. In a bare row this is a premise. The card (YtnoggcmfnmmjcaaGreatDoorCards.lean) ties it to the program's text. -/
def laid_spoor_walk_kinds {H : Type} : DataW H := .agg [.lit (.int .u8 3), .lit (.int .u8 4), .lit (.int .u8 1), .lit (.int .u8 2)]

/-- 'spoorlaw24.JudgeWalks': WHATEVER THE INPUT: true; the input reads as it did. -/
def judgeWalksSpec : ChangeSpec := { name := "judgeWalks", fn := fun _ => fun
  | [d1, d2, d3] => { results := [.lit (.bool true)], args := [d1, d2, d3] }
  | _ => none }
def judgeWalksRow : OpenClaim := { program := "ytnoggcmfnmmjcaagreatdoor", sum := "e2ebb9311e627c88e9ea1b5fa91e883f7030261926386b545527c4bf3e7ac923", func := "spoor/spoorlaw24.JudgeWalks", spec := "judgeWalks", unfollowed := true, recurses := true, named := ["spoor/walk.kinds"], apart := false, laid := [("spoor/walk.kinds", laid_spoor_walk_kinds)] }
def JudgeWalksSaid : Prop := judgeWalksRow.holds Tryz.pinned (OpenSpec.ofChange judgeWalksSpec)

/-- ITS FALSE NEIGHBOUR: 'it returns false'. Refute it at one input. -/
def judgeWalksWrong : ChangeSpec := { name := "judgeWalks", fn := fun _ => fun
  | [d1, d2, d3] => { results := [.lit (.bool false)], args := [d1, d2, d3] }
  | _ => none }
def JudgeWalksWrongFalsely : Prop := judgeWalksRow.holds Tryz.pinned (OpenSpec.ofChange judgeWalksWrong)

/-- 'spoorlaw24.JudgeRound': WHATEVER THE INPUT: true; the input reads as it did. -/
def judgeRoundSpec : ChangeSpec := { name := "judgeRound", fn := fun _ => fun
  | [d1, d2, d3] => { results := [.lit (.bool true)], args := [d1, d2, d3] }
  | _ => none }
def judgeRoundRow : OpenClaim := { program := "ytnoggcmfnmmjcaagreatdoor", sum := "e2ebb9311e627c88e9ea1b5fa91e883f7030261926386b545527c4bf3e7ac923", func := "spoor/spoorlaw24.JudgeRound", spec := "judgeRound", unfollowed := true, recurses := true, named := ["spoor/walk.kinds"], apart := false, laid := [("spoor/walk.kinds", laid_spoor_walk_kinds)] }
def JudgeRoundSaid : Prop := judgeRoundRow.holds Tryz.pinned (OpenSpec.ofChange judgeRoundSpec)

/-- ITS FALSE NEIGHBOUR: 'it returns false'. Refute it at one input. -/
def judgeRoundWrong : ChangeSpec := { name := "judgeRound", fn := fun _ => fun
  | [d1, d2, d3] => { results := [.lit (.bool false)], args := [d1, d2, d3] }
  | _ => none }
def JudgeRoundWrongFalsely : Prop := judgeRoundRow.holds Tryz.pinned (OpenSpec.ofChange judgeRoundWrong)

/- THE SECOND FORM. 'bulk': how many values and letters a reading holds, each counted each time it is reached (what is shared counts as often as it is met; a slice's spare places count too). A statement '..UptoSaid' is the law's where the arguments, and the package variables that the reading takes, are together of bulk at most 1048576: NARROWER than '..Said'. Prove '..Said' where nothing that the law and all that it calls make is longer than what came in: it says more and counts as full. Else prove '..UptoSaid'. A law counts once. -/
mutual
def uptoBulk {H : Type} : DataW H → Nat
  | .lit (.string bytes) => bytes.length + 1
  | .lit _ => 1
  | .nil => 1
  | .ptr d => uptoBulk d + 1
  | .slice elems spare => uptoBulkAll elems + uptoBulkAll spare + 1
  | .agg parts => uptoBulkAll parts + 1
  | .iface _ d => uptoBulk d + 1
  | .map entries => uptoBulkEntries entries + 1
  | .held _ => 1
def uptoBulkAll {H : Type} : List (DataW H) → Nat
  | [] => 0
  | d :: r => uptoBulk d + uptoBulkAll r
def uptoBulkEntries {H : Type} : List (Lit × DataW H) → Nat
  | [] => 0
  | x :: r => uptoBulkEntry x + uptoBulkEntries r
def uptoBulkEntry {H : Type} : Lit × DataW H → Nat
  | (.string bytes, d) => bytes.length + uptoBulk d + 1
  | (_, d) => uptoBulk d + 1
 end
def uptoSmall : (H : Type) → List (DataW H) → Bool := fun _ ds => decide (uptoBulkAll ds ≤ 1048576)
def OpenSpec.upto (s : _root_.Go.ChangeSpec) : _root_.Go.OpenSpec := { _root_.Go.OpenSpec.ofChange s with cond := some uptoSmall }

/-- 'spoorlaw24.JudgeWalks', WHERE WHAT IT READS IS OF BULK AT MOST 1048576: true; the input reads as it did. -/
def judgeWalksUptoRow : OpenClaim := { program := "ytnoggcmfnmmjcaagreatdoor", sum := "e2ebb9311e627c88e9ea1b5fa91e883f7030261926386b545527c4bf3e7ac923", func := "spoor/spoorlaw24.JudgeWalks", spec := "judgeWalks", unfollowed := true, recurses := true, named := ["spoor/walk.kinds"], apart := false, laid := [("spoor/walk.kinds", laid_spoor_walk_kinds)], narrowed := true }
def JudgeWalksUptoSaid : Prop := judgeWalksUptoRow.holds Tryz.pinned (OpenSpec.upto judgeWalksSpec)

/-- 'spoorlaw24.JudgeRound', WHERE WHAT IT READS IS OF BULK AT MOST 1048576: true; the input reads as it did. -/
def judgeRoundUptoRow : OpenClaim := { program := "ytnoggcmfnmmjcaagreatdoor", sum := "e2ebb9311e627c88e9ea1b5fa91e883f7030261926386b545527c4bf3e7ac923", func := "spoor/spoorlaw24.JudgeRound", spec := "judgeRound", unfollowed := true, recurses := true, named := ["spoor/walk.kinds"], apart := false, laid := [("spoor/walk.kinds", laid_spoor_walk_kinds)], narrowed := true }
def JudgeRoundUptoSaid : Prop := judgeRoundUptoRow.holds Tryz.pinned (OpenSpec.upto judgeRoundSpec)

end Rows
end Go.Proofs.YtnoggcmfnmmjcaaGreatDoor
