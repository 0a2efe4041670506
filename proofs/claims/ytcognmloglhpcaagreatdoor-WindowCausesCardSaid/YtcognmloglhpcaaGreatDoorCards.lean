/-
  DERIVED. GIVEN WITH THE SEED: THE CARDS: each row of YtcognmloglhpcaaGreatDoorRows.lean that lists a variable, with what it lists TIED to the program's text (the seventh form; the later family's looks); each row that meets fmt, with fmt's text TOLD by the authors' own Lean function (tested against real Go, not proved from fmt's source: count such statements apart). THE CARD IS WHAT COUNTS. Prove the row's statement (the work); the ties are given (YtcognmloglhpcaaGreatDoorTie.lean); close each card by the builder's one call (the guide's Derived/Test/ToyasCard.lean, 'card_holds'). Laid BY PROGRAM, IN A SANDBOX (cutbox-door.mjs). By AI agents, Wed Nov 11 2026. No macro, syntax, notation, axiom, sorry.
-/
import Derived.Test.YtcognmloglhpcaaGreatDoorRows
import GoSem.ClaimSeven
namespace Go.Proofs.YtcognmloglhpcaaGreatDoor
namespace Rows

/-- THE TIED CARD OF 'spoorlaw26.WindowTraces'. -/
def windowTracesCard : Claim7 := { stood := { row := windowTracesRow, standIns := [], harness := (true, "ef07591c9c9d316fdfc30bc97991a05ac923ff82716717ed9dc8fa9471a9962d"), looks := false }, kinds := [], alts := [], laidByText := true, laidKinds := [.data], laidTests := true, laidLooks := .later }
def WindowTracesCardSaid : Prop := Claim7.holds Tryz.pinned (.plain (OpenSpec.ofChange windowTracesSpec)) windowTracesCard

/-- THE TIED CARD OF 'spoorlaw26.WindowPart'. -/
def windowPartCard : Claim7 := { stood := { row := windowPartRow, standIns := [], harness := (true, "ef07591c9c9d316fdfc30bc97991a05ac923ff82716717ed9dc8fa9471a9962d"), looks := false }, kinds := [], alts := [], laidByText := true, laidKinds := [.data], laidTests := true, laidLooks := .later }
def WindowPartCardSaid : Prop := Claim7.holds Tryz.pinned (.plain (OpenSpec.ofChange windowPartSpec)) windowPartCard

/-- THE TIED CARD OF 'spoorlaw26.WindowEver'. -/
def windowEverCard : Claim7 := { stood := { row := windowEverRow, standIns := [], harness := (true, "ef07591c9c9d316fdfc30bc97991a05ac923ff82716717ed9dc8fa9471a9962d"), looks := false }, kinds := [], alts := [], laidByText := true, laidKinds := [.data], laidTests := true, laidLooks := .later }
def WindowEverCardSaid : Prop := Claim7.holds Tryz.pinned (.plain (OpenSpec.ofChange windowEverSpec)) windowEverCard

/-- THE TIED CARD OF 'spoorlaw26.WindowTells'. -/
def windowTellsCard : Claim7 := { stood := { row := windowTellsRow, standIns := [], harness := (true, "ef07591c9c9d316fdfc30bc97991a05ac923ff82716717ed9dc8fa9471a9962d"), looks := false }, kinds := [], alts := [], laidByText := true, laidKinds := [.data], laidTests := true, laidLooks := .later }
def WindowTellsCardSaid : Prop := Claim7.holds Tryz.pinned (.plain (OpenSpec.ofChange windowTellsSpec)) windowTellsCard

/-- THE TIED CARD OF 'spoorlaw26.WindowAt'. -/
def windowAtCard : Claim7 := { stood := { row := windowAtRow, standIns := [], harness := (true, "ef07591c9c9d316fdfc30bc97991a05ac923ff82716717ed9dc8fa9471a9962d"), looks := false }, kinds := [], alts := [], laidByText := true, laidKinds := [.data], laidTests := true, laidLooks := .later }
def WindowAtCardSaid : Prop := Claim7.holds Tryz.pinned (.plain (OpenSpec.ofChange windowAtSpec)) windowAtCard

/-- THE TIED CARD OF 'spoorlaw26.WindowCauses'. -/
def windowCausesCard : Claim7 := { stood := { row := windowCausesRow, standIns := [], harness := (true, "ef07591c9c9d316fdfc30bc97991a05ac923ff82716717ed9dc8fa9471a9962d"), looks := false }, kinds := [], alts := [], laidByText := true, laidKinds := [.data], laidTests := true, laidLooks := .later }
def WindowCausesCardSaid : Prop := Claim7.holds Tryz.pinned (.plain (OpenSpec.ofChange windowCausesSpec)) windowCausesCard

/-- THE TIED CARD OF 'spoorlaw26.WindowAlike'. -/
def windowAlikeCard : Claim7 := { stood := { row := windowAlikeRow, standIns := [], harness := (true, "ef07591c9c9d316fdfc30bc97991a05ac923ff82716717ed9dc8fa9471a9962d"), looks := false }, kinds := [], alts := [], laidByText := true, laidKinds := [.data], laidTests := true, laidLooks := .later }
def WindowAlikeCardSaid : Prop := Claim7.holds Tryz.pinned (.plain (OpenSpec.ofChange windowAlikeSpec)) windowAlikeCard

/-- THE TIED CARD OF 'spoorlaw27.DiffTells'. -/
def diffTellsCard : Claim7 := { stood := { row := diffTellsRow, standIns := [], harness := (true, "ef07591c9c9d316fdfc30bc97991a05ac923ff82716717ed9dc8fa9471a9962d"), looks := false }, kinds := [], alts := [], laidByText := true, laidKinds := [.data], laidTests := true, laidLooks := .later }
def DiffTellsCardSaid : Prop := Claim7.holds Tryz.pinned (.plain (OpenSpec.ofChange diffTellsSpec)) diffTellsCard

/-- THE TIED CARD OF 'spoorlaw27.DiffFates'. -/
def diffFatesCard : Claim7 := { stood := { row := diffFatesRow, standIns := [], harness := (true, "ef07591c9c9d316fdfc30bc97991a05ac923ff82716717ed9dc8fa9471a9962d"), looks := false }, kinds := [], alts := [], laidByText := true, laidKinds := [.data], laidTests := true, laidLooks := .later }
def DiffFatesCardSaid : Prop := Claim7.holds Tryz.pinned (.plain (OpenSpec.ofChange diffFatesSpec)) diffFatesCard

/-- THE TIED CARD OF 'spoorlaw27.DiffJust'. -/
def diffJustCard : Claim7 := { stood := { row := diffJustRow, standIns := [], harness := (true, "ef07591c9c9d316fdfc30bc97991a05ac923ff82716717ed9dc8fa9471a9962d"), looks := false }, kinds := [], alts := [], laidByText := true, laidKinds := [.data], laidTests := true, laidLooks := .later }
def DiffJustCardSaid : Prop := Claim7.holds Tryz.pinned (.plain (OpenSpec.ofChange diffJustSpec)) diffJustCard

/-- THE TIED CARD OF 'spoorlaw27.DiffBetween'. -/
def diffBetweenCard : Claim7 := { stood := { row := diffBetweenRow, standIns := [], harness := (true, "ef07591c9c9d316fdfc30bc97991a05ac923ff82716717ed9dc8fa9471a9962d"), looks := false }, kinds := [], alts := [], laidByText := true, laidKinds := [.data], laidTests := true, laidLooks := .later }
def DiffBetweenCardSaid : Prop := Claim7.holds Tryz.pinned (.plain (OpenSpec.ofChange diffBetweenSpec)) diffBetweenCard

/-- THE TIED CARD OF 'spoorlaw24.JudgeInto'. -/
def judgeIntoCard : Claim7 := { stood := { row := judgeIntoRow, standIns := [], harness := (true, "ef07591c9c9d316fdfc30bc97991a05ac923ff82716717ed9dc8fa9471a9962d"), looks := false }, kinds := [], alts := [], laidByText := true, laidKinds := [.data], laidTests := true, laidLooks := .later }
def JudgeIntoCardSaid : Prop := Claim7.holds Tryz.pinned (.plain (OpenSpec.ofChange judgeIntoSpec)) judgeIntoCard

/-- THE SECOND FORM's CARD OF 'spoorlaw26.WindowTraces'. -/
def windowTracesUptoCard : Claim7 := { stood := { row := windowTracesUptoRow, standIns := [], harness := (true, "ef07591c9c9d316fdfc30bc97991a05ac923ff82716717ed9dc8fa9471a9962d"), looks := false }, kinds := [], alts := [], laidByText := true, laidKinds := [.data], laidTests := true, laidLooks := .later }
def WindowTracesUptoCardSaid : Prop := Claim7.holds Tryz.pinned (.plain (OpenSpec.upto windowTracesSpec)) windowTracesUptoCard

/-- THE SECOND FORM's CARD OF 'spoorlaw26.WindowPart'. -/
def windowPartUptoCard : Claim7 := { stood := { row := windowPartUptoRow, standIns := [], harness := (true, "ef07591c9c9d316fdfc30bc97991a05ac923ff82716717ed9dc8fa9471a9962d"), looks := false }, kinds := [], alts := [], laidByText := true, laidKinds := [.data], laidTests := true, laidLooks := .later }
def WindowPartUptoCardSaid : Prop := Claim7.holds Tryz.pinned (.plain (OpenSpec.upto windowPartSpec)) windowPartUptoCard

/-- THE SECOND FORM's CARD OF 'spoorlaw26.WindowEver'. -/
def windowEverUptoCard : Claim7 := { stood := { row := windowEverUptoRow, standIns := [], harness := (true, "ef07591c9c9d316fdfc30bc97991a05ac923ff82716717ed9dc8fa9471a9962d"), looks := false }, kinds := [], alts := [], laidByText := true, laidKinds := [.data], laidTests := true, laidLooks := .later }
def WindowEverUptoCardSaid : Prop := Claim7.holds Tryz.pinned (.plain (OpenSpec.upto windowEverSpec)) windowEverUptoCard

/-- THE SECOND FORM's CARD OF 'spoorlaw26.WindowTells'. -/
def windowTellsUptoCard : Claim7 := { stood := { row := windowTellsUptoRow, standIns := [], harness := (true, "ef07591c9c9d316fdfc30bc97991a05ac923ff82716717ed9dc8fa9471a9962d"), looks := false }, kinds := [], alts := [], laidByText := true, laidKinds := [.data], laidTests := true, laidLooks := .later }
def WindowTellsUptoCardSaid : Prop := Claim7.holds Tryz.pinned (.plain (OpenSpec.upto windowTellsSpec)) windowTellsUptoCard

/-- THE SECOND FORM's CARD OF 'spoorlaw26.WindowAt'. -/
def windowAtUptoCard : Claim7 := { stood := { row := windowAtUptoRow, standIns := [], harness := (true, "ef07591c9c9d316fdfc30bc97991a05ac923ff82716717ed9dc8fa9471a9962d"), looks := false }, kinds := [], alts := [], laidByText := true, laidKinds := [.data], laidTests := true, laidLooks := .later }
def WindowAtUptoCardSaid : Prop := Claim7.holds Tryz.pinned (.plain (OpenSpec.upto windowAtSpec)) windowAtUptoCard

/-- THE SECOND FORM's CARD OF 'spoorlaw26.WindowCauses'. -/
def windowCausesUptoCard : Claim7 := { stood := { row := windowCausesUptoRow, standIns := [], harness := (true, "ef07591c9c9d316fdfc30bc97991a05ac923ff82716717ed9dc8fa9471a9962d"), looks := false }, kinds := [], alts := [], laidByText := true, laidKinds := [.data], laidTests := true, laidLooks := .later }
def WindowCausesUptoCardSaid : Prop := Claim7.holds Tryz.pinned (.plain (OpenSpec.upto windowCausesSpec)) windowCausesUptoCard

/-- THE SECOND FORM's CARD OF 'spoorlaw26.WindowAlike'. -/
def windowAlikeUptoCard : Claim7 := { stood := { row := windowAlikeUptoRow, standIns := [], harness := (true, "ef07591c9c9d316fdfc30bc97991a05ac923ff82716717ed9dc8fa9471a9962d"), looks := false }, kinds := [], alts := [], laidByText := true, laidKinds := [.data], laidTests := true, laidLooks := .later }
def WindowAlikeUptoCardSaid : Prop := Claim7.holds Tryz.pinned (.plain (OpenSpec.upto windowAlikeSpec)) windowAlikeUptoCard

/-- THE SECOND FORM's CARD OF 'spoorlaw27.DiffTells'. -/
def diffTellsUptoCard : Claim7 := { stood := { row := diffTellsUptoRow, standIns := [], harness := (true, "ef07591c9c9d316fdfc30bc97991a05ac923ff82716717ed9dc8fa9471a9962d"), looks := false }, kinds := [], alts := [], laidByText := true, laidKinds := [.data], laidTests := true, laidLooks := .later }
def DiffTellsUptoCardSaid : Prop := Claim7.holds Tryz.pinned (.plain (OpenSpec.upto diffTellsSpec)) diffTellsUptoCard

/-- THE SECOND FORM's CARD OF 'spoorlaw27.DiffFates'. -/
def diffFatesUptoCard : Claim7 := { stood := { row := diffFatesUptoRow, standIns := [], harness := (true, "ef07591c9c9d316fdfc30bc97991a05ac923ff82716717ed9dc8fa9471a9962d"), looks := false }, kinds := [], alts := [], laidByText := true, laidKinds := [.data], laidTests := true, laidLooks := .later }
def DiffFatesUptoCardSaid : Prop := Claim7.holds Tryz.pinned (.plain (OpenSpec.upto diffFatesSpec)) diffFatesUptoCard

/-- THE SECOND FORM's CARD OF 'spoorlaw27.DiffJust'. -/
def diffJustUptoCard : Claim7 := { stood := { row := diffJustUptoRow, standIns := [], harness := (true, "ef07591c9c9d316fdfc30bc97991a05ac923ff82716717ed9dc8fa9471a9962d"), looks := false }, kinds := [], alts := [], laidByText := true, laidKinds := [.data], laidTests := true, laidLooks := .later }
def DiffJustUptoCardSaid : Prop := Claim7.holds Tryz.pinned (.plain (OpenSpec.upto diffJustSpec)) diffJustUptoCard

/-- THE SECOND FORM's CARD OF 'spoorlaw27.DiffBetween'. -/
def diffBetweenUptoCard : Claim7 := { stood := { row := diffBetweenUptoRow, standIns := [], harness := (true, "ef07591c9c9d316fdfc30bc97991a05ac923ff82716717ed9dc8fa9471a9962d"), looks := false }, kinds := [], alts := [], laidByText := true, laidKinds := [.data], laidTests := true, laidLooks := .later }
def DiffBetweenUptoCardSaid : Prop := Claim7.holds Tryz.pinned (.plain (OpenSpec.upto diffBetweenSpec)) diffBetweenUptoCard

/-- THE SECOND FORM's CARD OF 'spoorlaw24.JudgeInto'. -/
def judgeIntoUptoCard : Claim7 := { stood := { row := judgeIntoUptoRow, standIns := [], harness := (true, "ef07591c9c9d316fdfc30bc97991a05ac923ff82716717ed9dc8fa9471a9962d"), looks := false }, kinds := [], alts := [], laidByText := true, laidKinds := [.data], laidTests := true, laidLooks := .later }
def JudgeIntoUptoCardSaid : Prop := Claim7.holds Tryz.pinned (.plain (OpenSpec.upto judgeIntoSpec)) judgeIntoUptoCard
end Rows
end Go.Proofs.YtcognmloglhpcaaGreatDoor
