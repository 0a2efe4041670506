/-
  No cell of these rows narrows 'for every input' (looked for: loops, veiled, ifaces, maps, wideKeys, modest, calm, conditions, laid).
  DERIVED. THE GIVEN ROWS OF THIS SEAT. 11 by the template 'for every input the law returns true; each argument reads behind the call as it read before'; 0 by the template 'total and deterministic' (their statements: YtholjnkcajjiiaaGreatTotals.lean).
  GIVEN WITH THE SEED: the statements are not yours to turn. If you find one false, say at which input.
  Laid BY PROGRAM, IN A SANDBOX (cutbox-rows.mjs): the forced cells as the released guide's own fill.sh prints them over the translation 048ff7734adf4d06… (all of the seat's roots in one cut). By AI agents, Wed Nov 11 2026. No macro, syntax, notation, axiom, sorry.
-/
import Derived.Test.YtholjnkcajjiiaaGreatChecked
import GoSem.Claim
import GoSem.ClaimJoined
import GoSem.ClaimMapViews
import Derived.JoinedTies
import Derived.KernelRfl
namespace Go.Proofs.YtholjnkcajjiiaaGreat
/- THE CELL 'sum', in the pinned program and in every row, IS THE sha256 OF THE DUMP (.gsa) THAT YtholjnkcajjiiaaGreatProg.lean LOADS. Nothing in Lean hashes anything: it is a label: what it is worth is what the hold of that sum in a sandbox is worth. -/
noncomputable def Tryz.pinned : Pinned := { name := "ytholjnkcajjiiaagreat", sum := "048ff7734adf4d06a116e1372910f36c8e5ed10b7548d93d815ce7b217da4e2f", checked := Tryz.checked }
namespace Rows
def none {H : Type} : Left H := { results := [], args := [] }

/-- 'spoorlaw21.PastTakes': WHATEVER THE INPUT: true; the input reads as it did. -/
def pastTakesSpec : ChangeSpec := { name := "pastTakes", fn := fun _ => fun
  | [d1, d2, d3] => { results := [.lit (.bool true)], args := [d1, d2, d3] }
  | _ => none }
def pastTakesRow : OpenClaim := { program := "ytholjnkcajjiiaagreat", sum := "048ff7734adf4d06a116e1372910f36c8e5ed10b7548d93d815ce7b217da4e2f", func := "spoor/spoorlaw21.PastTakes", spec := "pastTakes", inPlace := ["slices.overlaps[spoor/api.Route]", "slices.overlaps[spoor/api.Link]", "slices.overlaps[spoor/api.Router]", "slices.overlaps[spoor/api.Seat]"], unfollowed := true, recurses := true, apart := false }
def PastTakesSaid : Prop := pastTakesRow.holds Tryz.pinned (OpenSpec.ofChange pastTakesSpec)

/-- ITS FALSE NEIGHBOUR: 'it returns false'. Refute it at one input. -/
def pastTakesWrong : ChangeSpec := { name := "pastTakes", fn := fun _ => fun
  | [d1, d2, d3] => { results := [.lit (.bool false)], args := [d1, d2, d3] }
  | _ => none }
def PastTakesWrongFalsely : Prop := pastTakesRow.holds Tryz.pinned (OpenSpec.ofChange pastTakesWrong)

/-- 'spoorlaw21.PastAsks': WHATEVER THE INPUT: true; the input reads as it did. -/
def pastAsksSpec : ChangeSpec := { name := "pastAsks", fn := fun _ => fun
  | [d1, d2, d3] => { results := [.lit (.bool true)], args := [d1, d2, d3] }
  | _ => none }
def pastAsksRow : OpenClaim := { program := "ytholjnkcajjiiaagreat", sum := "048ff7734adf4d06a116e1372910f36c8e5ed10b7548d93d815ce7b217da4e2f", func := "spoor/spoorlaw21.PastAsks", spec := "pastAsks", inPlace := ["slices.overlaps[spoor/api.Route]", "slices.overlaps[spoor/api.Link]", "slices.overlaps[spoor/api.Router]", "slices.overlaps[spoor/api.Seat]"], unfollowed := true, recurses := true, apart := false }
def PastAsksSaid : Prop := pastAsksRow.holds Tryz.pinned (OpenSpec.ofChange pastAsksSpec)

/-- ITS FALSE NEIGHBOUR: 'it returns false'. Refute it at one input. -/
def pastAsksWrong : ChangeSpec := { name := "pastAsks", fn := fun _ => fun
  | [d1, d2, d3] => { results := [.lit (.bool false)], args := [d1, d2, d3] }
  | _ => none }
def PastAsksWrongFalsely : Prop := pastAsksRow.holds Tryz.pinned (OpenSpec.ofChange pastAsksWrong)

/-- 'spoorlaw21.PastRight': WHATEVER THE INPUT: true; the input reads as it did. -/
def pastRightSpec : ChangeSpec := { name := "pastRight", fn := fun _ => fun
  | [d1, d2, d3] => { results := [.lit (.bool true)], args := [d1, d2, d3] }
  | _ => none }
def pastRightRow : OpenClaim := { program := "ytholjnkcajjiiaagreat", sum := "048ff7734adf4d06a116e1372910f36c8e5ed10b7548d93d815ce7b217da4e2f", func := "spoor/spoorlaw21.PastRight", spec := "pastRight", inPlace := ["slices.overlaps[spoor/api.Route]", "slices.overlaps[spoor/api.Link]", "slices.overlaps[spoor/api.Router]", "slices.overlaps[spoor/api.Seat]"], unfollowed := true, recurses := true, apart := false }
def PastRightSaid : Prop := pastRightRow.holds Tryz.pinned (OpenSpec.ofChange pastRightSpec)

/-- ITS FALSE NEIGHBOUR: 'it returns false'. Refute it at one input. -/
def pastRightWrong : ChangeSpec := { name := "pastRight", fn := fun _ => fun
  | [d1, d2, d3] => { results := [.lit (.bool false)], args := [d1, d2, d3] }
  | _ => none }
def PastRightWrongFalsely : Prop := pastRightRow.holds Tryz.pinned (OpenSpec.ofChange pastRightWrong)

/-- 'spoorlaw21.PastRetains': WHATEVER THE INPUT: true; the input reads as it did. -/
def pastRetainsSpec : ChangeSpec := { name := "pastRetains", fn := fun _ => fun
  | [d1, d2, d3, d4] => { results := [.lit (.bool true)], args := [d1, d2, d3, d4] }
  | _ => none }
def pastRetainsRow : OpenClaim := { program := "ytholjnkcajjiiaagreat", sum := "048ff7734adf4d06a116e1372910f36c8e5ed10b7548d93d815ce7b217da4e2f", func := "spoor/spoorlaw21.PastRetains", spec := "pastRetains", inPlace := ["slices.overlaps[spoor/api.Route]", "slices.overlaps[spoor/api.Link]", "slices.overlaps[spoor/api.Router]", "slices.overlaps[spoor/api.Seat]"], unfollowed := true, recurses := true, apart := false }
def PastRetainsSaid : Prop := pastRetainsRow.holds Tryz.pinned (OpenSpec.ofChange pastRetainsSpec)

/-- ITS FALSE NEIGHBOUR: 'it returns false'. Refute it at one input. -/
def pastRetainsWrong : ChangeSpec := { name := "pastRetains", fn := fun _ => fun
  | [d1, d2, d3, d4] => { results := [.lit (.bool false)], args := [d1, d2, d3, d4] }
  | _ => none }
def PastRetainsWrongFalsely : Prop := pastRetainsRow.holds Tryz.pinned (OpenSpec.ofChange pastRetainsWrong)

/-- 'spoorlaw21.PastBetween': WHATEVER THE INPUT: true; the input reads as it did. -/
def pastBetweenSpec : ChangeSpec := { name := "pastBetween", fn := fun _ => fun
  | [d1, d2] => { results := [.lit (.bool true)], args := [d1, d2] }
  | _ => none }
def pastBetweenRow : OpenClaim := { program := "ytholjnkcajjiiaagreat", sum := "048ff7734adf4d06a116e1372910f36c8e5ed10b7548d93d815ce7b217da4e2f", func := "spoor/spoorlaw21.PastBetween", spec := "pastBetween", inPlace := ["slices.overlaps[spoor/api.Route]", "slices.overlaps[spoor/api.Link]", "slices.overlaps[spoor/api.Router]", "slices.overlaps[spoor/api.Seat]"], unfollowed := true, recurses := true, apart := false }
def PastBetweenSaid : Prop := pastBetweenRow.holds Tryz.pinned (OpenSpec.ofChange pastBetweenSpec)

/-- ITS FALSE NEIGHBOUR: 'it returns false'. Refute it at one input. -/
def pastBetweenWrong : ChangeSpec := { name := "pastBetween", fn := fun _ => fun
  | [d1, d2] => { results := [.lit (.bool false)], args := [d1, d2] }
  | _ => none }
def PastBetweenWrongFalsely : Prop := pastBetweenRow.holds Tryz.pinned (OpenSpec.ofChange pastBetweenWrong)

/-- 'spoorlaw21.PastLater': WHATEVER THE INPUT: true; the input reads as it did. -/
def pastLaterSpec : ChangeSpec := { name := "pastLater", fn := fun _ => fun
  | [d1, d2, d3] => { results := [.lit (.bool true)], args := [d1, d2, d3] }
  | _ => none }
def pastLaterRow : OpenClaim := { program := "ytholjnkcajjiiaagreat", sum := "048ff7734adf4d06a116e1372910f36c8e5ed10b7548d93d815ce7b217da4e2f", func := "spoor/spoorlaw21.PastLater", spec := "pastLater", inPlace := ["slices.overlaps[spoor/api.Route]", "slices.overlaps[spoor/api.Link]", "slices.overlaps[spoor/api.Router]", "slices.overlaps[spoor/api.Seat]"], unfollowed := true, recurses := true, apart := false }
def PastLaterSaid : Prop := pastLaterRow.holds Tryz.pinned (OpenSpec.ofChange pastLaterSpec)

/-- ITS FALSE NEIGHBOUR: 'it returns false'. Refute it at one input. -/
def pastLaterWrong : ChangeSpec := { name := "pastLater", fn := fun _ => fun
  | [d1, d2, d3] => { results := [.lit (.bool false)], args := [d1, d2, d3] }
  | _ => none }
def PastLaterWrongFalsely : Prop := pastLaterRow.holds Tryz.pinned (OpenSpec.ofChange pastLaterWrong)

/-- 'spoorlaw21.PastOne': WHATEVER THE INPUT: true; the input reads as it did. -/
def pastOneSpec : ChangeSpec := { name := "pastOne", fn := fun _ => fun
  | [d1, d2, d3, d4] => { results := [.lit (.bool true)], args := [d1, d2, d3, d4] }
  | _ => none }
def pastOneRow : OpenClaim := { program := "ytholjnkcajjiiaagreat", sum := "048ff7734adf4d06a116e1372910f36c8e5ed10b7548d93d815ce7b217da4e2f", func := "spoor/spoorlaw21.PastOne", spec := "pastOne", inPlace := ["slices.overlaps[spoor/api.Route]", "slices.overlaps[spoor/api.Link]", "slices.overlaps[spoor/api.Router]", "slices.overlaps[spoor/api.Seat]"], unfollowed := true, recurses := true, apart := false }
def PastOneSaid : Prop := pastOneRow.holds Tryz.pinned (OpenSpec.ofChange pastOneSpec)

/-- ITS FALSE NEIGHBOUR: 'it returns false'. Refute it at one input. -/
def pastOneWrong : ChangeSpec := { name := "pastOne", fn := fun _ => fun
  | [d1, d2, d3, d4] => { results := [.lit (.bool false)], args := [d1, d2, d3, d4] }
  | _ => none }
def PastOneWrongFalsely : Prop := pastOneRow.holds Tryz.pinned (OpenSpec.ofChange pastOneWrong)

/-- 'spoorlaw22.AtomsCut': WHATEVER THE INPUT: true; the input reads as it did. -/
def atomsCutSpec : ChangeSpec := { name := "atomsCut", fn := fun _ => fun
  | [d1, d2, d3] => { results := [.lit (.bool true)], args := [d1, d2, d3] }
  | _ => none }
def atomsCutRow : OpenClaim := { program := "ytholjnkcajjiiaagreat", sum := "048ff7734adf4d06a116e1372910f36c8e5ed10b7548d93d815ce7b217da4e2f", func := "spoor/spoorlaw22.AtomsCut", spec := "atomsCut", inPlace := ["slices.overlaps[spoor/api.Route]", "slices.overlaps[spoor/api.Link]", "slices.overlaps[spoor/api.Router]", "slices.overlaps[spoor/api.Seat]", "math/bits.Add64", "math/bits.Sub64"], unfollowed := true, recurses := true, apart := false }
def AtomsCutSaid : Prop := atomsCutRow.holds Tryz.pinned (OpenSpec.ofChange atomsCutSpec)

/-- ITS FALSE NEIGHBOUR: 'it returns false'. Refute it at one input. -/
def atomsCutWrong : ChangeSpec := { name := "atomsCut", fn := fun _ => fun
  | [d1, d2, d3] => { results := [.lit (.bool false)], args := [d1, d2, d3] }
  | _ => none }
def AtomsCutWrongFalsely : Prop := atomsCutRow.holds Tryz.pinned (OpenSpec.ofChange atomsCutWrong)

/-- 'spoorlaw22.AtomsAsk': WHATEVER THE INPUT: true; the input reads as it did. -/
def atomsAskSpec : ChangeSpec := { name := "atomsAsk", fn := fun _ => fun
  | [d1, d2, d3, d4] => { results := [.lit (.bool true)], args := [d1, d2, d3, d4] }
  | _ => none }
def atomsAskRow : OpenClaim := { program := "ytholjnkcajjiiaagreat", sum := "048ff7734adf4d06a116e1372910f36c8e5ed10b7548d93d815ce7b217da4e2f", func := "spoor/spoorlaw22.AtomsAsk", spec := "atomsAsk", inPlace := ["slices.overlaps[spoor/api.Route]", "slices.overlaps[spoor/api.Link]", "slices.overlaps[spoor/api.Router]", "slices.overlaps[spoor/api.Seat]", "math/bits.Add64", "math/bits.Sub64"], unfollowed := true, recurses := true, apart := false }
def AtomsAskSaid : Prop := atomsAskRow.holds Tryz.pinned (OpenSpec.ofChange atomsAskSpec)

/-- ITS FALSE NEIGHBOUR: 'it returns false'. Refute it at one input. -/
def atomsAskWrong : ChangeSpec := { name := "atomsAsk", fn := fun _ => fun
  | [d1, d2, d3, d4] => { results := [.lit (.bool false)], args := [d1, d2, d3, d4] }
  | _ => none }
def AtomsAskWrongFalsely : Prop := atomsAskRow.holds Tryz.pinned (OpenSpec.ofChange atomsAskWrong)

/-- 'spoorlaw22.AtomsFiner': WHATEVER THE INPUT: true; the input reads as it did. -/
def atomsFinerSpec : ChangeSpec := { name := "atomsFiner", fn := fun _ => fun
  | [d1, d2, d3, d4, d5] => { results := [.lit (.bool true)], args := [d1, d2, d3, d4, d5] }
  | _ => none }
def atomsFinerRow : OpenClaim := { program := "ytholjnkcajjiiaagreat", sum := "048ff7734adf4d06a116e1372910f36c8e5ed10b7548d93d815ce7b217da4e2f", func := "spoor/spoorlaw22.AtomsFiner", spec := "atomsFiner", inPlace := ["slices.overlaps[spoor/api.Route]", "slices.overlaps[spoor/api.Link]", "slices.overlaps[spoor/api.Router]", "slices.overlaps[spoor/api.Seat]", "math/bits.Add64", "math/bits.Sub64"], unfollowed := true, recurses := true, apart := false }
def AtomsFinerSaid : Prop := atomsFinerRow.holds Tryz.pinned (OpenSpec.ofChange atomsFinerSpec)

/-- ITS FALSE NEIGHBOUR: 'it returns false'. Refute it at one input. -/
def atomsFinerWrong : ChangeSpec := { name := "atomsFiner", fn := fun _ => fun
  | [d1, d2, d3, d4, d5] => { results := [.lit (.bool false)], args := [d1, d2, d3, d4, d5] }
  | _ => none }
def AtomsFinerWrongFalsely : Prop := atomsFinerRow.holds Tryz.pinned (OpenSpec.ofChange atomsFinerWrong)

/-- 'spoorlaw22.AtomsAlike': WHATEVER THE INPUT: true; the input reads as it did. -/
def atomsAlikeSpec : ChangeSpec := { name := "atomsAlike", fn := fun _ => fun
  | [d1, d2, d3, d4, d5] => { results := [.lit (.bool true)], args := [d1, d2, d3, d4, d5] }
  | _ => none }
def atomsAlikeRow : OpenClaim := { program := "ytholjnkcajjiiaagreat", sum := "048ff7734adf4d06a116e1372910f36c8e5ed10b7548d93d815ce7b217da4e2f", func := "spoor/spoorlaw22.AtomsAlike", spec := "atomsAlike", inPlace := ["slices.overlaps[spoor/api.Route]", "slices.overlaps[spoor/api.Link]", "slices.overlaps[spoor/api.Router]", "slices.overlaps[spoor/api.Seat]", "math/bits.Add64", "math/bits.Sub64"], unfollowed := true, recurses := true, apart := false }
def AtomsAlikeSaid : Prop := atomsAlikeRow.holds Tryz.pinned (OpenSpec.ofChange atomsAlikeSpec)

/-- ITS FALSE NEIGHBOUR: 'it returns false'. Refute it at one input. -/
def atomsAlikeWrong : ChangeSpec := { name := "atomsAlike", fn := fun _ => fun
  | [d1, d2, d3, d4, d5] => { results := [.lit (.bool false)], args := [d1, d2, d3, d4, d5] }
  | _ => none }
def AtomsAlikeWrongFalsely : Prop := atomsAlikeRow.holds Tryz.pinned (OpenSpec.ofChange atomsAlikeWrong)

/- THE SECOND FORM. 'bulk': how many values and letters a reading holds, each counted each time it is reached (what is shared counts as often as it is met; a slice's spare places count too). A statement '..UptoSaid' is the law's where the arguments, and the package variables that the reading takes, are together of bulk at most 1048576: NARROWER than '..Said'. Prove '..Said' where nothing that the law and all that it calls make is longer than what came in: it says more and counts as full. Else prove '..UptoSaid'. A law counts once. -/
mutual
def uptoBulk {H : Type} : DataW H → Nat
  | .lit (.string bytes) => bytes.length + 1
  | .lit _ => 1
  | .nil => 1
  | .ptr d => uptoBulk d + 1
  | .slice elems spare => uptoBulkAll elems + uptoBulkAll spare + 1
  | .agg parts => uptoBulkAll parts + 1
  | .iface _ d => uptoBulk d + 1
  | .map entries => uptoBulkEntries entries + 1
  | .held _ => 1
def uptoBulkAll {H : Type} : List (DataW H) → Nat
  | [] => 0
  | d :: r => uptoBulk d + uptoBulkAll r
def uptoBulkEntries {H : Type} : List (Lit × DataW H) → Nat
  | [] => 0
  | x :: r => uptoBulkEntry x + uptoBulkEntries r
def uptoBulkEntry {H : Type} : Lit × DataW H → Nat
  | (.string bytes, d) => bytes.length + uptoBulk d + 1
  | (_, d) => uptoBulk d + 1
 end
def uptoSmall : (H : Type) → List (DataW H) → Bool := fun _ ds => decide (uptoBulkAll ds ≤ 1048576)
def OpenSpec.upto (s : _root_.Go.ChangeSpec) : _root_.Go.OpenSpec := { _root_.Go.OpenSpec.ofChange s with cond := some uptoSmall }

/-- 'spoorlaw21.PastTakes', WHERE WHAT IT READS IS OF BULK AT MOST 1048576: true; the input reads as it did. -/
def pastTakesUptoRow : OpenClaim := { program := "ytholjnkcajjiiaagreat", sum := "048ff7734adf4d06a116e1372910f36c8e5ed10b7548d93d815ce7b217da4e2f", func := "spoor/spoorlaw21.PastTakes", spec := "pastTakes", inPlace := ["slices.overlaps[spoor/api.Route]", "slices.overlaps[spoor/api.Link]", "slices.overlaps[spoor/api.Router]", "slices.overlaps[spoor/api.Seat]"], unfollowed := true, recurses := true, apart := false, narrowed := true }
def PastTakesUptoSaid : Prop := pastTakesUptoRow.holds Tryz.pinned (OpenSpec.upto pastTakesSpec)

/-- 'spoorlaw21.PastAsks', WHERE WHAT IT READS IS OF BULK AT MOST 1048576: true; the input reads as it did. -/
def pastAsksUptoRow : OpenClaim := { program := "ytholjnkcajjiiaagreat", sum := "048ff7734adf4d06a116e1372910f36c8e5ed10b7548d93d815ce7b217da4e2f", func := "spoor/spoorlaw21.PastAsks", spec := "pastAsks", inPlace := ["slices.overlaps[spoor/api.Route]", "slices.overlaps[spoor/api.Link]", "slices.overlaps[spoor/api.Router]", "slices.overlaps[spoor/api.Seat]"], unfollowed := true, recurses := true, apart := false, narrowed := true }
def PastAsksUptoSaid : Prop := pastAsksUptoRow.holds Tryz.pinned (OpenSpec.upto pastAsksSpec)

/-- 'spoorlaw21.PastRight', WHERE WHAT IT READS IS OF BULK AT MOST 1048576: true; the input reads as it did. -/
def pastRightUptoRow : OpenClaim := { program := "ytholjnkcajjiiaagreat", sum := "048ff7734adf4d06a116e1372910f36c8e5ed10b7548d93d815ce7b217da4e2f", func := "spoor/spoorlaw21.PastRight", spec := "pastRight", inPlace := ["slices.overlaps[spoor/api.Route]", "slices.overlaps[spoor/api.Link]", "slices.overlaps[spoor/api.Router]", "slices.overlaps[spoor/api.Seat]"], unfollowed := true, recurses := true, apart := false, narrowed := true }
def PastRightUptoSaid : Prop := pastRightUptoRow.holds Tryz.pinned (OpenSpec.upto pastRightSpec)

/-- 'spoorlaw21.PastRetains', WHERE WHAT IT READS IS OF BULK AT MOST 1048576: true; the input reads as it did. -/
def pastRetainsUptoRow : OpenClaim := { program := "ytholjnkcajjiiaagreat", sum := "048ff7734adf4d06a116e1372910f36c8e5ed10b7548d93d815ce7b217da4e2f", func := "spoor/spoorlaw21.PastRetains", spec := "pastRetains", inPlace := ["slices.overlaps[spoor/api.Route]", "slices.overlaps[spoor/api.Link]", "slices.overlaps[spoor/api.Router]", "slices.overlaps[spoor/api.Seat]"], unfollowed := true, recurses := true, apart := false, narrowed := true }
def PastRetainsUptoSaid : Prop := pastRetainsUptoRow.holds Tryz.pinned (OpenSpec.upto pastRetainsSpec)

/-- 'spoorlaw21.PastBetween', WHERE WHAT IT READS IS OF BULK AT MOST 1048576: true; the input reads as it did. -/
def pastBetweenUptoRow : OpenClaim := { program := "ytholjnkcajjiiaagreat", sum := "048ff7734adf4d06a116e1372910f36c8e5ed10b7548d93d815ce7b217da4e2f", func := "spoor/spoorlaw21.PastBetween", spec := "pastBetween", inPlace := ["slices.overlaps[spoor/api.Route]", "slices.overlaps[spoor/api.Link]", "slices.overlaps[spoor/api.Router]", "slices.overlaps[spoor/api.Seat]"], unfollowed := true, recurses := true, apart := false, narrowed := true }
def PastBetweenUptoSaid : Prop := pastBetweenUptoRow.holds Tryz.pinned (OpenSpec.upto pastBetweenSpec)

/-- 'spoorlaw21.PastLater', WHERE WHAT IT READS IS OF BULK AT MOST 1048576: true; the input reads as it did. -/
def pastLaterUptoRow : OpenClaim := { program := "ytholjnkcajjiiaagreat", sum := "048ff7734adf4d06a116e1372910f36c8e5ed10b7548d93d815ce7b217da4e2f", func := "spoor/spoorlaw21.PastLater", spec := "pastLater", inPlace := ["slices.overlaps[spoor/api.Route]", "slices.overlaps[spoor/api.Link]", "slices.overlaps[spoor/api.Router]", "slices.overlaps[spoor/api.Seat]"], unfollowed := true, recurses := true, apart := false, narrowed := true }
def PastLaterUptoSaid : Prop := pastLaterUptoRow.holds Tryz.pinned (OpenSpec.upto pastLaterSpec)

/-- 'spoorlaw21.PastOne', WHERE WHAT IT READS IS OF BULK AT MOST 1048576: true; the input reads as it did. -/
def pastOneUptoRow : OpenClaim := { program := "ytholjnkcajjiiaagreat", sum := "048ff7734adf4d06a116e1372910f36c8e5ed10b7548d93d815ce7b217da4e2f", func := "spoor/spoorlaw21.PastOne", spec := "pastOne", inPlace := ["slices.overlaps[spoor/api.Route]", "slices.overlaps[spoor/api.Link]", "slices.overlaps[spoor/api.Router]", "slices.overlaps[spoor/api.Seat]"], unfollowed := true, recurses := true, apart := false, narrowed := true }
def PastOneUptoSaid : Prop := pastOneUptoRow.holds Tryz.pinned (OpenSpec.upto pastOneSpec)

/-- 'spoorlaw22.AtomsCut', WHERE WHAT IT READS IS OF BULK AT MOST 1048576: true; the input reads as it did. -/
def atomsCutUptoRow : OpenClaim := { program := "ytholjnkcajjiiaagreat", sum := "048ff7734adf4d06a116e1372910f36c8e5ed10b7548d93d815ce7b217da4e2f", func := "spoor/spoorlaw22.AtomsCut", spec := "atomsCut", inPlace := ["slices.overlaps[spoor/api.Route]", "slices.overlaps[spoor/api.Link]", "slices.overlaps[spoor/api.Router]", "slices.overlaps[spoor/api.Seat]", "math/bits.Add64", "math/bits.Sub64"], unfollowed := true, recurses := true, apart := false, narrowed := true }
def AtomsCutUptoSaid : Prop := atomsCutUptoRow.holds Tryz.pinned (OpenSpec.upto atomsCutSpec)

/-- 'spoorlaw22.AtomsAsk', WHERE WHAT IT READS IS OF BULK AT MOST 1048576: true; the input reads as it did. -/
def atomsAskUptoRow : OpenClaim := { program := "ytholjnkcajjiiaagreat", sum := "048ff7734adf4d06a116e1372910f36c8e5ed10b7548d93d815ce7b217da4e2f", func := "spoor/spoorlaw22.AtomsAsk", spec := "atomsAsk", inPlace := ["slices.overlaps[spoor/api.Route]", "slices.overlaps[spoor/api.Link]", "slices.overlaps[spoor/api.Router]", "slices.overlaps[spoor/api.Seat]", "math/bits.Add64", "math/bits.Sub64"], unfollowed := true, recurses := true, apart := false, narrowed := true }
def AtomsAskUptoSaid : Prop := atomsAskUptoRow.holds Tryz.pinned (OpenSpec.upto atomsAskSpec)

/-- 'spoorlaw22.AtomsFiner', WHERE WHAT IT READS IS OF BULK AT MOST 1048576: true; the input reads as it did. -/
def atomsFinerUptoRow : OpenClaim := { program := "ytholjnkcajjiiaagreat", sum := "048ff7734adf4d06a116e1372910f36c8e5ed10b7548d93d815ce7b217da4e2f", func := "spoor/spoorlaw22.AtomsFiner", spec := "atomsFiner", inPlace := ["slices.overlaps[spoor/api.Route]", "slices.overlaps[spoor/api.Link]", "slices.overlaps[spoor/api.Router]", "slices.overlaps[spoor/api.Seat]", "math/bits.Add64", "math/bits.Sub64"], unfollowed := true, recurses := true, apart := false, narrowed := true }
def AtomsFinerUptoSaid : Prop := atomsFinerUptoRow.holds Tryz.pinned (OpenSpec.upto atomsFinerSpec)

/-- 'spoorlaw22.AtomsAlike', WHERE WHAT IT READS IS OF BULK AT MOST 1048576: true; the input reads as it did. -/
def atomsAlikeUptoRow : OpenClaim := { program := "ytholjnkcajjiiaagreat", sum := "048ff7734adf4d06a116e1372910f36c8e5ed10b7548d93d815ce7b217da4e2f", func := "spoor/spoorlaw22.AtomsAlike", spec := "atomsAlike", inPlace := ["slices.overlaps[spoor/api.Route]", "slices.overlaps[spoor/api.Link]", "slices.overlaps[spoor/api.Router]", "slices.overlaps[spoor/api.Seat]", "math/bits.Add64", "math/bits.Sub64"], unfollowed := true, recurses := true, apart := false, narrowed := true }
def AtomsAlikeUptoSaid : Prop := atomsAlikeUptoRow.holds Tryz.pinned (OpenSpec.upto atomsAlikeSpec)

end Rows
end Go.Proofs.YtholjnkcajjiiaaGreat
