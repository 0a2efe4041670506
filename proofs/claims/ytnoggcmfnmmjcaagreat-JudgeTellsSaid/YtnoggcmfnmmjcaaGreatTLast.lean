/-
  For every net, every address and either family: the law JudgeTells returns true, and its arguments read afterwards as before. No condition.
-/
import Derived.Test.YtnoggcmfnmmjcaaGreatRows
import Derived.Deep.CondSized
import Derived.Test.YtnoggcmfnmmjcaaGreatT6
set_option linter.unusedVariables false
namespace Go.Proofs.YtnoggcmfnmmjcaaGreat
open Go.Am Go.ChangeShapes Go.WideShapes Go.ChangeAt Go.RowKit

theorem own : ownKnob Tryz.prog.godebug = none := by kernel_rfl
theorem laidOut : laidOutB Tryz.prog = true := by kernel_rfl
theorem shNet : [25, 4, 28].mapM (shT Tryz.prog 8) = some [netSh, [.bool], addrSh] := by kernel_rfl

set_option maxRecDepth 100000 in
theorem judgeTells_lifted (os : Os) (started : os.Started) (H : Type) (enc : TypeId × Value → H) :
    ReturnsInHanded {} Tryz.checked os 3 .any (Rows.judgeTellsSpec.pre6 enc Tryz.prog Tryz.f3 Rows.judgeTellsRow.domain false) (Rows.judgeTellsSpec.post enc Tryz.prog Tryz.f3 false true false false) := by
  refine returnsInHanded_of_change (C := Tryz.checked) own started (by kernel_rfl) Tryz.func3
    (ChangeSpec.witness6 (enc := enc) (C := Tryz.checked) false ⟨#[], #[.agg #[.slice none 0 0, .slice none 0 0], .bool false, .agg #[.int .u64 0, .int .u64 0]], []⟩ 8 (by kernel_rfl) (by kernel_rfl) (by kernel_rfl) (by kernel_rfl)) ?_
  intro W base args ds gs before hval hW _ _
  refine law_contract (n := 8) (ss := [netSh, [.bool], addrSh]) (ts := [25, 4, 28]) (tb := 4) laidOut rfl rfl Tryz.underlying4 (by kernel_rfl) shNet rfl hval hW ?_ ?_
  · intro xs hx _
    obtain ⟨n, six, a, hn, ha, e⟩ := args_net hx
    rw [e]
    exact judgeTells_spec n six a hn ha
  · intro d hd
    match d, hd with
    | [_, _, _], _ => rfl
theorem judgeTells_holds : Rows.JudgeTellsSaid :=
  OpenClaim.holds_of_wide 3 Tryz.f3 rfl rfl rfl rfl rfl rfl rfl ⟨rfl, rfl, rfl, rfl, rfl⟩ rfl rfl rfl rfl rfl (by kernel_rfl) Tryz.func3 (by kernel_rfl)
    (of_decide_eq_true (by kernel_rfl)) (by unfold Func.isWrapper; first | (rw [if_pos (by decide +kernel)]; kernel_rfl) | (rw [if_neg (by decide +kernel)]; exact ⟨rfl, rfl⟩))
    (fun os started H enc _ => judgeTells_lifted os started H enc)
end Go.Proofs.YtnoggcmfnmmjcaaGreat
