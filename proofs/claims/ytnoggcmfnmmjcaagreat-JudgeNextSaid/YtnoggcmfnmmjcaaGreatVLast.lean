/-
  For every net, every address and either family: the law JudgeNext returns true, and its arguments read afterwards as before. No condition.
-/
import Derived.Test.YtnoggcmfnmmjcaaGreatRows
import Derived.Deep.CondSized
import Derived.Test.YtnoggcmfnmmjcaaGreatV1
set_option linter.unusedVariables false
namespace Go.Proofs.YtnoggcmfnmmjcaaGreat
open Go.Am Go.ChangeShapes Go.WideShapes Go.ChangeAt Go.RowKit

theorem own : ownKnob Tryz.prog.godebug = none := by kernel_rfl
theorem laidOut : laidOutB Tryz.prog = true := by kernel_rfl
theorem shNet : [25, 4, 28].mapM (shT Tryz.prog 8) = some [netSh, [.bool], addrSh] := by kernel_rfl

set_option maxRecDepth 100000 in
theorem judgeNext_lifted (os : Os) (started : os.Started) (H : Type) (enc : TypeId × Value → H) :
    ReturnsInHanded {} Tryz.checked os 5 .any (Rows.judgeNextSpec.pre6 enc Tryz.prog Tryz.f5 Rows.judgeNextRow.domain false) (Rows.judgeNextSpec.post enc Tryz.prog Tryz.f5 false true false false) := by
  refine returnsInHanded_of_change (C := Tryz.checked) own started (by kernel_rfl) Tryz.func5
    (ChangeSpec.witness6 (enc := enc) (C := Tryz.checked) false ⟨#[], #[.agg #[.slice none 0 0, .slice none 0 0], .bool false, .agg #[.int .u64 0, .int .u64 0]], []⟩ 8 (by kernel_rfl) (by kernel_rfl) (by kernel_rfl) (by kernel_rfl)) ?_
  intro W base args ds gs before hval hW _ _
  refine law_contract (n := 8) (ss := [netSh, [.bool], addrSh]) (ts := [25, 4, 28]) (tb := 4) laidOut rfl rfl Tryz.underlying4 (by kernel_rfl) shNet rfl hval hW ?_ ?_
  · intro xs hx _
    obtain ⟨n, six, a, hn, ha, e⟩ := args_net hx
    rw [e]
    exact judgeNext_spec n six a hn ha
  · intro d hd
    match d, hd with
    | [_, _, _], _ => rfl
theorem judgeNext_holds : Rows.JudgeNextSaid :=
  OpenClaim.holds_of_wide 5 Tryz.f5 rfl rfl rfl rfl rfl rfl rfl ⟨rfl, rfl, rfl, rfl, rfl⟩ rfl rfl rfl rfl rfl (by kernel_rfl) Tryz.func5 (by kernel_rfl)
    (of_decide_eq_true (by kernel_rfl)) (by unfold Func.isWrapper; first | (rw [if_pos (by decide +kernel)]; kernel_rfl) | (rw [if_neg (by decide +kernel)]; exact ⟨rfl, rfl⟩))
    (fun os started H enc _ => judgeNext_lifted os started H enc)
end Go.Proofs.YtnoggcmfnmmjcaaGreat
