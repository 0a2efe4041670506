/-
  DERIVED. GIVEN WITH THE SEED: THE CARDS: each row of YtnoggcmfnmmjcaaGreatDoorRows.lean that lists a variable, with what it lists TIED to the program's text (the seventh form; the later family's looks); each row that meets fmt, with fmt's text TOLD by the authors' own Lean function (tested against real Go, not proved from fmt's source: count such statements apart). THE CARD IS WHAT COUNTS. Prove the row's statement (the work); the ties are given (YtnoggcmfnmmjcaaGreatDoorTie.lean); close each card by the builder's one call (the guide's Derived/Test/ToyasCard.lean, 'card_holds'). Laid BY PROGRAM, IN A SANDBOX (cutbox-door.mjs). By AI agents, Wed Nov 11 2026. No macro, syntax, notation, axiom, sorry.
-/
import Derived.Test.YtnoggcmfnmmjcaaGreatDoorRows
import GoSem.ClaimSeven
namespace Go.Proofs.YtnoggcmfnmmjcaaGreatDoor
namespace Rows

/-- THE TIED CARD OF 'spoorlaw24.JudgeWalks'. -/
def judgeWalksCard : Claim7 := { stood := { row := judgeWalksRow, standIns := [], harness := (true, "b14678eea4604f10514d275cd64f2b5896c54c9c932a0ae33623d27101879d55"), looks := false }, kinds := [], alts := [], laidByText := true, laidKinds := [.data], laidTests := true, laidLooks := .later }
def JudgeWalksCardSaid : Prop := Claim7.holds Tryz.pinned (.plain (OpenSpec.ofChange judgeWalksSpec)) judgeWalksCard

/-- THE TIED CARD OF 'spoorlaw24.JudgeRound'. -/
def judgeRoundCard : Claim7 := { stood := { row := judgeRoundRow, standIns := [], harness := (true, "b14678eea4604f10514d275cd64f2b5896c54c9c932a0ae33623d27101879d55"), looks := false }, kinds := [], alts := [], laidByText := true, laidKinds := [.data], laidTests := true, laidLooks := .later }
def JudgeRoundCardSaid : Prop := Claim7.holds Tryz.pinned (.plain (OpenSpec.ofChange judgeRoundSpec)) judgeRoundCard

/-- THE SECOND FORM's CARD OF 'spoorlaw24.JudgeWalks'. -/
def judgeWalksUptoCard : Claim7 := { stood := { row := judgeWalksUptoRow, standIns := [], harness := (true, "b14678eea4604f10514d275cd64f2b5896c54c9c932a0ae33623d27101879d55"), looks := false }, kinds := [], alts := [], laidByText := true, laidKinds := [.data], laidTests := true, laidLooks := .later }
def JudgeWalksUptoCardSaid : Prop := Claim7.holds Tryz.pinned (.plain (OpenSpec.upto judgeWalksSpec)) judgeWalksUptoCard

/-- THE SECOND FORM's CARD OF 'spoorlaw24.JudgeRound'. -/
def judgeRoundUptoCard : Claim7 := { stood := { row := judgeRoundUptoRow, standIns := [], harness := (true, "b14678eea4604f10514d275cd64f2b5896c54c9c932a0ae33623d27101879d55"), looks := false }, kinds := [], alts := [], laidByText := true, laidKinds := [.data], laidTests := true, laidLooks := .later }
def JudgeRoundUptoCardSaid : Prop := Claim7.holds Tryz.pinned (.plain (OpenSpec.upto judgeRoundSpec)) judgeRoundUptoCard
end Rows
end Go.Proofs.YtnoggcmfnmmjcaaGreatDoor
