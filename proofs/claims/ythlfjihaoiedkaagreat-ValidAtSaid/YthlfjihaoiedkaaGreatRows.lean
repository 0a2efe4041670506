/-
  No cell of these rows narrows 'for every input' (looked for: loops, veiled, ifaces, maps, wideKeys, modest, calm, conditions, laid).
  DERIVED. THE GIVEN ROWS OF THIS SEAT. 8 by the template 'for every input the law returns true; each argument reads behind the call as it read before'; 0 by the template 'total and deterministic' (their statements: YthlfjihaoiedkaaGreatTotals.lean).
  GIVEN WITH THE SEED: the statements are not yours to turn. If you find one false, say at which input.
  Laid BY PROGRAM, IN A SANDBOX (cutbox-rows.mjs): the forced cells as the released guide's own fill.sh prints them over the translation 1c5b8b72444aee69… (all of the seat's roots in one cut). By AI agents, Wed Nov 11 2026. No macro, syntax, notation, axiom, sorry.
-/
import Derived.Test.YthlfjihaoiedkaaGreatChecked
import GoSem.Claim
import GoSem.ClaimJoined
import GoSem.ClaimMapViews
import Derived.JoinedTies
import Derived.KernelRfl
namespace Go.Proofs.YthlfjihaoiedkaaGreat
/- THE CELL 'sum', in the pinned program and in every row, IS THE sha256 OF THE DUMP (.gsa) THAT YthlfjihaoiedkaaGreatProg.lean LOADS. Nothing in Lean hashes anything: it is a label: what it is worth is what the hold of that sum in a sandbox is worth. -/
noncomputable def Tryz.pinned : Pinned := { name := "ythlfjihaoiedkaagreat", sum := "1c5b8b72444aee69b7d8cec4de706450c5c7dd5e75b8ac81e80c3bc5f45571ed", checked := Tryz.checked }
namespace Rows
def none {H : Type} : Left H := { results := [], args := [] }

/-- 'spoorlaw22.AtomsPart': WHATEVER THE INPUT: true; the input reads as it did. -/
def atomsPartSpec : ChangeSpec := { name := "atomsPart", fn := fun _ => fun
  | [d1, d2, d3] => { results := [.lit (.bool true)], args := [d1, d2, d3] }
  | _ => none }
def atomsPartRow : OpenClaim := { program := "ythlfjihaoiedkaagreat", sum := "1c5b8b72444aee69b7d8cec4de706450c5c7dd5e75b8ac81e80c3bc5f45571ed", func := "spoor/spoorlaw22.AtomsPart", spec := "atomsPart", inPlace := ["slices.overlaps[spoor/api.Route]", "slices.overlaps[spoor/api.Link]", "slices.overlaps[spoor/api.Router]", "slices.overlaps[spoor/api.Seat]", "math/bits.Add64", "math/bits.Sub64"], unfollowed := true, recurses := true, apart := false }
def AtomsPartSaid : Prop := atomsPartRow.holds Tryz.pinned (OpenSpec.ofChange atomsPartSpec)

/-- ITS FALSE NEIGHBOUR: 'it returns false'. Refute it at one input. -/
def atomsPartWrong : ChangeSpec := { name := "atomsPart", fn := fun _ => fun
  | [d1, d2, d3] => { results := [.lit (.bool false)], args := [d1, d2, d3] }
  | _ => none }
def AtomsPartWrongFalsely : Prop := atomsPartRow.holds Tryz.pinned (OpenSpec.ofChange atomsPartWrong)

/-- 'spoorlaw22.AtomsClasses': WHATEVER THE INPUT: true; the input reads as it did. -/
def atomsClassesSpec : ChangeSpec := { name := "atomsClasses", fn := fun _ => fun
  | [d1, d2] => { results := [.lit (.bool true)], args := [d1, d2] }
  | _ => none }
def atomsClassesRow : OpenClaim := { program := "ythlfjihaoiedkaagreat", sum := "1c5b8b72444aee69b7d8cec4de706450c5c7dd5e75b8ac81e80c3bc5f45571ed", func := "spoor/spoorlaw22.AtomsClasses", spec := "atomsClasses", inPlace := ["math/bits.Add64", "math/bits.Sub64", "slices.overlaps[spoor/api.Route]", "slices.overlaps[spoor/api.Link]", "slices.overlaps[spoor/api.Router]", "slices.overlaps[spoor/api.Seat]"], unfollowed := true, recurses := true, apart := false }
def AtomsClassesSaid : Prop := atomsClassesRow.holds Tryz.pinned (OpenSpec.ofChange atomsClassesSpec)

/-- ITS FALSE NEIGHBOUR: 'it returns false'. Refute it at one input. -/
def atomsClassesWrong : ChangeSpec := { name := "atomsClasses", fn := fun _ => fun
  | [d1, d2] => { results := [.lit (.bool false)], args := [d1, d2] }
  | _ => none }
def AtomsClassesWrongFalsely : Prop := atomsClassesRow.holds Tryz.pinned (OpenSpec.ofChange atomsClassesWrong)

/-- 'spoorlaw25.ValidTells': WHATEVER THE INPUT: true; the input reads as it did. -/
def validTellsSpec : ChangeSpec := { name := "validTells", fn := fun _ => fun
  | [d1, d2, d3, d4, d5, d6] => { results := [.lit (.bool true)], args := [d1, d2, d3, d4, d5, d6] }
  | _ => none }
def validTellsRow : OpenClaim := { program := "ythlfjihaoiedkaagreat", sum := "1c5b8b72444aee69b7d8cec4de706450c5c7dd5e75b8ac81e80c3bc5f45571ed", func := "spoor/spoorlaw25.ValidTells", spec := "validTells", inPlace := ["slices.overlaps[spoor/api.Route]", "slices.overlaps[spoor/api.Link]", "slices.overlaps[spoor/api.Router]", "slices.overlaps[spoor/api.Seat]"], unfollowed := true, recurses := true, apart := false }
def ValidTellsSaid : Prop := validTellsRow.holds Tryz.pinned (OpenSpec.ofChange validTellsSpec)

/-- ITS FALSE NEIGHBOUR: 'it returns false'. Refute it at one input. -/
def validTellsWrong : ChangeSpec := { name := "validTells", fn := fun _ => fun
  | [d1, d2, d3, d4, d5, d6] => { results := [.lit (.bool false)], args := [d1, d2, d3, d4, d5, d6] }
  | _ => none }
def ValidTellsWrongFalsely : Prop := validTellsRow.holds Tryz.pinned (OpenSpec.ofChange validTellsWrong)

/-- 'spoorlaw25.ValidWhole': WHATEVER THE INPUT: true; the input reads as it did. -/
def validWholeSpec : ChangeSpec := { name := "validWhole", fn := fun _ => fun
  | [d1, d2, d3, d4, d5] => { results := [.lit (.bool true)], args := [d1, d2, d3, d4, d5] }
  | _ => none }
def validWholeRow : OpenClaim := { program := "ythlfjihaoiedkaagreat", sum := "1c5b8b72444aee69b7d8cec4de706450c5c7dd5e75b8ac81e80c3bc5f45571ed", func := "spoor/spoorlaw25.ValidWhole", spec := "validWhole", inPlace := ["slices.overlaps[spoor/api.Route]", "slices.overlaps[spoor/api.Link]", "slices.overlaps[spoor/api.Router]", "slices.overlaps[spoor/api.Seat]"], unfollowed := true, recurses := true, apart := false }
def ValidWholeSaid : Prop := validWholeRow.holds Tryz.pinned (OpenSpec.ofChange validWholeSpec)

/-- ITS FALSE NEIGHBOUR: 'it returns false'. Refute it at one input. -/
def validWholeWrong : ChangeSpec := { name := "validWhole", fn := fun _ => fun
  | [d1, d2, d3, d4, d5] => { results := [.lit (.bool false)], args := [d1, d2, d3, d4, d5] }
  | _ => none }
def ValidWholeWrongFalsely : Prop := validWholeRow.holds Tryz.pinned (OpenSpec.ofChange validWholeWrong)

/-- 'spoorlaw22.AtomsOne': WHATEVER THE INPUT: true; the input reads as it did. -/
def atomsOneSpec : ChangeSpec := { name := "atomsOne", fn := fun _ => fun
  | [d1, d2, d3, d4] => { results := [.lit (.bool true)], args := [d1, d2, d3, d4] }
  | _ => none }
def atomsOneRow : OpenClaim := { program := "ythlfjihaoiedkaagreat", sum := "1c5b8b72444aee69b7d8cec4de706450c5c7dd5e75b8ac81e80c3bc5f45571ed", func := "spoor/spoorlaw22.AtomsOne", spec := "atomsOne", inPlace := ["slices.overlaps[spoor/api.Route]", "slices.overlaps[spoor/api.Link]", "slices.overlaps[spoor/api.Router]", "slices.overlaps[spoor/api.Seat]", "math/bits.Add64", "math/bits.Sub64"], unfollowed := true, recurses := true, apart := false }
def AtomsOneSaid : Prop := atomsOneRow.holds Tryz.pinned (OpenSpec.ofChange atomsOneSpec)

/-- ITS FALSE NEIGHBOUR: 'it returns false'. Refute it at one input. -/
def atomsOneWrong : ChangeSpec := { name := "atomsOne", fn := fun _ => fun
  | [d1, d2, d3, d4] => { results := [.lit (.bool false)], args := [d1, d2, d3, d4] }
  | _ => none }
def AtomsOneWrongFalsely : Prop := atomsOneRow.holds Tryz.pinned (OpenSpec.ofChange atomsOneWrong)

/-- 'spoorlaw25.ValidSame': WHATEVER THE INPUT: true; the input reads as it did. -/
def validSameSpec : ChangeSpec := { name := "validSame", fn := fun _ => fun
  | [d1, d2, d3, d4, d5, d6, d7] => { results := [.lit (.bool true)], args := [d1, d2, d3, d4, d5, d6, d7] }
  | _ => none }
def validSameRow : OpenClaim := { program := "ythlfjihaoiedkaagreat", sum := "1c5b8b72444aee69b7d8cec4de706450c5c7dd5e75b8ac81e80c3bc5f45571ed", func := "spoor/spoorlaw25.ValidSame", spec := "validSame", inPlace := ["slices.overlaps[spoor/api.Route]", "slices.overlaps[spoor/api.Link]", "slices.overlaps[spoor/api.Router]", "slices.overlaps[spoor/api.Seat]"], unfollowed := true, recurses := true, apart := false }
def ValidSameSaid : Prop := validSameRow.holds Tryz.pinned (OpenSpec.ofChange validSameSpec)

/-- ITS FALSE NEIGHBOUR: 'it returns false'. Refute it at one input. -/
def validSameWrong : ChangeSpec := { name := "validSame", fn := fun _ => fun
  | [d1, d2, d3, d4, d5, d6, d7] => { results := [.lit (.bool false)], args := [d1, d2, d3, d4, d5, d6, d7] }
  | _ => none }
def ValidSameWrongFalsely : Prop := validSameRow.holds Tryz.pinned (OpenSpec.ofChange validSameWrong)

/-- 'spoorlaw25.ValidAt': WHATEVER THE INPUT: true; the input reads as it did. -/
def validAtSpec : ChangeSpec := { name := "validAt", fn := fun _ => fun
  | [d1, d2, d3, d4, d5, d6] => { results := [.lit (.bool true)], args := [d1, d2, d3, d4, d5, d6] }
  | _ => none }
def validAtRow : OpenClaim := { program := "ythlfjihaoiedkaagreat", sum := "1c5b8b72444aee69b7d8cec4de706450c5c7dd5e75b8ac81e80c3bc5f45571ed", func := "spoor/spoorlaw25.ValidAt", spec := "validAt", inPlace := ["slices.overlaps[spoor/api.Route]", "slices.overlaps[spoor/api.Link]", "slices.overlaps[spoor/api.Router]", "slices.overlaps[spoor/api.Seat]"], unfollowed := true, recurses := true, apart := false }
def ValidAtSaid : Prop := validAtRow.holds Tryz.pinned (OpenSpec.ofChange validAtSpec)

/-- ITS FALSE NEIGHBOUR: 'it returns false'. Refute it at one input. -/
def validAtWrong : ChangeSpec := { name := "validAt", fn := fun _ => fun
  | [d1, d2, d3, d4, d5, d6] => { results := [.lit (.bool false)], args := [d1, d2, d3, d4, d5, d6] }
  | _ => none }
def ValidAtWrongFalsely : Prop := validAtRow.holds Tryz.pinned (OpenSpec.ofChange validAtWrong)

/-- 'spoorlaw25.ValidPart': WHATEVER THE INPUT: true; the input reads as it did. -/
def validPartSpec : ChangeSpec := { name := "validPart", fn := fun _ => fun
  | [d1, d2, d3, d4, d5, d6, d7] => { results := [.lit (.bool true)], args := [d1, d2, d3, d4, d5, d6, d7] }
  | _ => none }
def validPartRow : OpenClaim := { program := "ythlfjihaoiedkaagreat", sum := "1c5b8b72444aee69b7d8cec4de706450c5c7dd5e75b8ac81e80c3bc5f45571ed", func := "spoor/spoorlaw25.ValidPart", spec := "validPart", inPlace := ["slices.overlaps[spoor/api.Route]", "slices.overlaps[spoor/api.Link]", "slices.overlaps[spoor/api.Router]", "slices.overlaps[spoor/api.Seat]"], unfollowed := true, recurses := true, apart := false }
def ValidPartSaid : Prop := validPartRow.holds Tryz.pinned (OpenSpec.ofChange validPartSpec)

/-- ITS FALSE NEIGHBOUR: 'it returns false'. Refute it at one input. -/
def validPartWrong : ChangeSpec := { name := "validPart", fn := fun _ => fun
  | [d1, d2, d3, d4, d5, d6, d7] => { results := [.lit (.bool false)], args := [d1, d2, d3, d4, d5, d6, d7] }
  | _ => none }
def ValidPartWrongFalsely : Prop := validPartRow.holds Tryz.pinned (OpenSpec.ofChange validPartWrong)

/- THE SECOND FORM. 'bulk': how many values and letters a reading holds, each counted each time it is reached (what is shared counts as often as it is met; a slice's spare places count too). A statement '..UptoSaid' is the law's where the arguments, and the package variables that the reading takes, are together of bulk at most 1048576: NARROWER than '..Said'. Prove '..Said' where nothing that the law and all that it calls make is longer than what came in: it says more and counts as full. Else prove '..UptoSaid'. A law counts once. -/
mutual
def uptoBulk {H : Type} : DataW H → Nat
  | .lit (.string bytes) => bytes.length + 1
  | .lit _ => 1
  | .nil => 1
  | .ptr d => uptoBulk d + 1
  | .slice elems spare => uptoBulkAll elems + uptoBulkAll spare + 1
  | .agg parts => uptoBulkAll parts + 1
  | .iface _ d => uptoBulk d + 1
  | .map entries => uptoBulkEntries entries + 1
  | .held _ => 1
def uptoBulkAll {H : Type} : List (DataW H) → Nat
  | [] => 0
  | d :: r => uptoBulk d + uptoBulkAll r
def uptoBulkEntries {H : Type} : List (Lit × DataW H) → Nat
  | [] => 0
  | x :: r => uptoBulkEntry x + uptoBulkEntries r
def uptoBulkEntry {H : Type} : Lit × DataW H → Nat
  | (.string bytes, d) => bytes.length + uptoBulk d + 1
  | (_, d) => uptoBulk d + 1
 end
def uptoSmall : (H : Type) → List (DataW H) → Bool := fun _ ds => decide (uptoBulkAll ds ≤ 1048576)
def OpenSpec.upto (s : _root_.Go.ChangeSpec) : _root_.Go.OpenSpec := { _root_.Go.OpenSpec.ofChange s with cond := some uptoSmall }

/-- 'spoorlaw22.AtomsPart', WHERE WHAT IT READS IS OF BULK AT MOST 1048576: true; the input reads as it did. -/
def atomsPartUptoRow : OpenClaim := { program := "ythlfjihaoiedkaagreat", sum := "1c5b8b72444aee69b7d8cec4de706450c5c7dd5e75b8ac81e80c3bc5f45571ed", func := "spoor/spoorlaw22.AtomsPart", spec := "atomsPart", inPlace := ["slices.overlaps[spoor/api.Route]", "slices.overlaps[spoor/api.Link]", "slices.overlaps[spoor/api.Router]", "slices.overlaps[spoor/api.Seat]", "math/bits.Add64", "math/bits.Sub64"], unfollowed := true, recurses := true, apart := false, narrowed := true }
def AtomsPartUptoSaid : Prop := atomsPartUptoRow.holds Tryz.pinned (OpenSpec.upto atomsPartSpec)

/-- 'spoorlaw22.AtomsClasses', WHERE WHAT IT READS IS OF BULK AT MOST 1048576: true; the input reads as it did. -/
def atomsClassesUptoRow : OpenClaim := { program := "ythlfjihaoiedkaagreat", sum := "1c5b8b72444aee69b7d8cec4de706450c5c7dd5e75b8ac81e80c3bc5f45571ed", func := "spoor/spoorlaw22.AtomsClasses", spec := "atomsClasses", inPlace := ["math/bits.Add64", "math/bits.Sub64", "slices.overlaps[spoor/api.Route]", "slices.overlaps[spoor/api.Link]", "slices.overlaps[spoor/api.Router]", "slices.overlaps[spoor/api.Seat]"], unfollowed := true, recurses := true, apart := false, narrowed := true }
def AtomsClassesUptoSaid : Prop := atomsClassesUptoRow.holds Tryz.pinned (OpenSpec.upto atomsClassesSpec)

/-- 'spoorlaw25.ValidTells', WHERE WHAT IT READS IS OF BULK AT MOST 1048576: true; the input reads as it did. -/
def validTellsUptoRow : OpenClaim := { program := "ythlfjihaoiedkaagreat", sum := "1c5b8b72444aee69b7d8cec4de706450c5c7dd5e75b8ac81e80c3bc5f45571ed", func := "spoor/spoorlaw25.ValidTells", spec := "validTells", inPlace := ["slices.overlaps[spoor/api.Route]", "slices.overlaps[spoor/api.Link]", "slices.overlaps[spoor/api.Router]", "slices.overlaps[spoor/api.Seat]"], unfollowed := true, recurses := true, apart := false, narrowed := true }
def ValidTellsUptoSaid : Prop := validTellsUptoRow.holds Tryz.pinned (OpenSpec.upto validTellsSpec)

/-- 'spoorlaw25.ValidWhole', WHERE WHAT IT READS IS OF BULK AT MOST 1048576: true; the input reads as it did. -/
def validWholeUptoRow : OpenClaim := { program := "ythlfjihaoiedkaagreat", sum := "1c5b8b72444aee69b7d8cec4de706450c5c7dd5e75b8ac81e80c3bc5f45571ed", func := "spoor/spoorlaw25.ValidWhole", spec := "validWhole", inPlace := ["slices.overlaps[spoor/api.Route]", "slices.overlaps[spoor/api.Link]", "slices.overlaps[spoor/api.Router]", "slices.overlaps[spoor/api.Seat]"], unfollowed := true, recurses := true, apart := false, narrowed := true }
def ValidWholeUptoSaid : Prop := validWholeUptoRow.holds Tryz.pinned (OpenSpec.upto validWholeSpec)

/-- 'spoorlaw22.AtomsOne', WHERE WHAT IT READS IS OF BULK AT MOST 1048576: true; the input reads as it did. -/
def atomsOneUptoRow : OpenClaim := { program := "ythlfjihaoiedkaagreat", sum := "1c5b8b72444aee69b7d8cec4de706450c5c7dd5e75b8ac81e80c3bc5f45571ed", func := "spoor/spoorlaw22.AtomsOne", spec := "atomsOne", inPlace := ["slices.overlaps[spoor/api.Route]", "slices.overlaps[spoor/api.Link]", "slices.overlaps[spoor/api.Router]", "slices.overlaps[spoor/api.Seat]", "math/bits.Add64", "math/bits.Sub64"], unfollowed := true, recurses := true, apart := false, narrowed := true }
def AtomsOneUptoSaid : Prop := atomsOneUptoRow.holds Tryz.pinned (OpenSpec.upto atomsOneSpec)

/-- 'spoorlaw25.ValidSame', WHERE WHAT IT READS IS OF BULK AT MOST 1048576: true; the input reads as it did. -/
def validSameUptoRow : OpenClaim := { program := "ythlfjihaoiedkaagreat", sum := "1c5b8b72444aee69b7d8cec4de706450c5c7dd5e75b8ac81e80c3bc5f45571ed", func := "spoor/spoorlaw25.ValidSame", spec := "validSame", inPlace := ["slices.overlaps[spoor/api.Route]", "slices.overlaps[spoor/api.Link]", "slices.overlaps[spoor/api.Router]", "slices.overlaps[spoor/api.Seat]"], unfollowed := true, recurses := true, apart := false, narrowed := true }
def ValidSameUptoSaid : Prop := validSameUptoRow.holds Tryz.pinned (OpenSpec.upto validSameSpec)

/-- 'spoorlaw25.ValidAt', WHERE WHAT IT READS IS OF BULK AT MOST 1048576: true; the input reads as it did. -/
def validAtUptoRow : OpenClaim := { program := "ythlfjihaoiedkaagreat", sum := "1c5b8b72444aee69b7d8cec4de706450c5c7dd5e75b8ac81e80c3bc5f45571ed", func := "spoor/spoorlaw25.ValidAt", spec := "validAt", inPlace := ["slices.overlaps[spoor/api.Route]", "slices.overlaps[spoor/api.Link]", "slices.overlaps[spoor/api.Router]", "slices.overlaps[spoor/api.Seat]"], unfollowed := true, recurses := true, apart := false, narrowed := true }
def ValidAtUptoSaid : Prop := validAtUptoRow.holds Tryz.pinned (OpenSpec.upto validAtSpec)

/-- 'spoorlaw25.ValidPart', WHERE WHAT IT READS IS OF BULK AT MOST 1048576: true; the input reads as it did. -/
def validPartUptoRow : OpenClaim := { program := "ythlfjihaoiedkaagreat", sum := "1c5b8b72444aee69b7d8cec4de706450c5c7dd5e75b8ac81e80c3bc5f45571ed", func := "spoor/spoorlaw25.ValidPart", spec := "validPart", inPlace := ["slices.overlaps[spoor/api.Route]", "slices.overlaps[spoor/api.Link]", "slices.overlaps[spoor/api.Router]", "slices.overlaps[spoor/api.Seat]"], unfollowed := true, recurses := true, apart := false, narrowed := true }
def ValidPartUptoSaid : Prop := validPartUptoRow.holds Tryz.pinned (OpenSpec.upto validPartSpec)

end Rows
end Go.Proofs.YthlfjihaoiedkaaGreat
