/-
  For any two lists of fates and any kind, where the arguments are together of bulk at most 1048576: the law JudgeCounts returns true, and its arguments read afterwards as before. No other condition.
-/
import Derived.Test.YtnoggcmfnmmjcaaGreatRows
import Derived.Deep.CondSized
import Derived.JoinedCond
import Derived.Test.YtnoggcmfnmmjcaaGreatU1
set_option linter.unusedVariables false
namespace Go.Proofs.YtnoggcmfnmmjcaaGreat
open Go.Am Go.ChangeShapes Go.WideShapes Go.ChangeAt Go.RowKit

theorem own : ownKnob Tryz.prog.godebug = none := by kernel_rfl
theorem laidOut : laidOutB Tryz.prog = true := by kernel_rfl
theorem shFates : [29, 29, 41].mapM (shT Tryz.prog 8) = some [[.sl fateSh], [.sl fateSh], [.int .u8]] := by kernel_rfl
mutual
theorem bulk_eq {H : Type} : ∀ d : DataW H, Rows.uptoBulk d = dBulk d
  | .lit l => by cases l <;> simp [Rows.uptoBulk, dBulk]
  | .nil => by simp [Rows.uptoBulk, dBulk]
  | .ptr d => by simp [Rows.uptoBulk, dBulk, bulk_eq d]
  | .slice elems spare => by simp [Rows.uptoBulk, dBulk, bulkAll_eq elems, bulkAll_eq spare]
  | .agg parts => by simp [Rows.uptoBulk, dBulk, bulkAll_eq parts]
  | .iface _ d => by simp [Rows.uptoBulk, dBulk, bulk_eq d]
  | .map entries => by simp [Rows.uptoBulk, dBulk, bulkEntries_eq entries]
  | .held _ => by simp [Rows.uptoBulk, dBulk]
theorem bulkAll_eq {H : Type} : ∀ l : List (DataW H), Rows.uptoBulkAll l = dBulkAll l
  | [] => by simp [Rows.uptoBulkAll, dBulkAll]
  | d :: r => by simp [Rows.uptoBulkAll, dBulkAll, bulk_eq d, bulkAll_eq r]
theorem bulkEntries_eq {H : Type} : ∀ l : List (Lit × DataW H), Rows.uptoBulkEntries l = dBulkEntries l
  | [] => by simp [Rows.uptoBulkEntries, dBulkEntries]
  | x :: r => by simp [Rows.uptoBulkEntries, dBulkEntries, bulkEntry_eq x, bulkEntries_eq r]
theorem bulkEntry_eq {H : Type} : ∀ x : Lit × DataW H, Rows.uptoBulkEntry x = dBulkEntry x
  | (l, d) => by cases l <;> simp [Rows.uptoBulkEntry, dBulkEntry, bulk_eq d]
end
theorem small_le {H : Type} {l : List (DataW H)} (h : Rows.uptoSmall H l = true) : dBulkAll l ≤ 1048576 := by
  rw [← bulkAll_eq]
  exact of_decide_eq_true h

set_option maxRecDepth 100000 in
theorem judgeCounts_lifted (os : Os) (started : os.Started) (H : Type) (enc : TypeId × Value → H) (F : Stop.Interp) :
    ReturnsInHanded {} Tryz.checked os 4 .any ((Rows.OpenSpec.upto Rows.judgeCountsSpec).pre6 enc Tryz.prog Tryz.f4 Rows.judgeCountsUptoRow.domain false) (((Rows.OpenSpec.upto Rows.judgeCountsSpec).at F).post enc Tryz.prog Tryz.f4 false true false false) := by
  refine returnsInHanded_of_cond (C := Tryz.checked) (s := Rows.OpenSpec.upto Rows.judgeCountsSpec) (k := Rows.uptoSmall) rfl own started (by kernel_rfl) Tryz.func4
    (OpenSpec.witness (enc := enc) (C := Tryz.checked) (s := Rows.OpenSpec.upto Rows.judgeCountsSpec) (k := Rows.uptoSmall) rfl false ⟨#[], #[.slice none 0 0, .slice none 0 0, .int .u8 0], []⟩ 8 (by kernel_rfl) (by kernel_rfl) (by kernel_rfl)
      (x := ([.nil, .nil, .lit (.int .u8 0)], [], [])) (by kernel_rfl) rfl (by kernel_rfl)) ?_
  intro W base args ds gs before hval hW _ hk _
  have hk' := small_le hk
  refine law_contract (n := 8) (ss := [[.sl fateSh], [.sl fateSh], [.int .u8]]) (ts := [29, 29, 41]) (tb := 4) laidOut rfl rfl Tryz.underlying4 (by kernel_rfl) shFates rfl hval hW ?_ ?_
  · intro xs hx hb
    obtain ⟨a, b, kind, ha, hb, e⟩ := args_fates hx (Nat.le_trans hb hk')
    rw [e]
    exact judgeCounts_spec a b kind ha hb
  · intro d hd
    match d, hd with
    | [_, _, _], _ => rfl
theorem judgeCounts_holds : Rows.JudgeCountsUptoSaid :=
  OpenClaim.holds_of_cond 4 Tryz.f4 rfl rfl rfl rfl rfl rfl rfl ⟨rfl, rfl, rfl, rfl, rfl⟩ rfl rfl rfl rfl rfl (by kernel_rfl) Tryz.func4 (by kernel_rfl)
    (of_decide_eq_true (by kernel_rfl)) (by unfold Func.isWrapper; first | (rw [if_pos (by decide +kernel)]; kernel_rfl) | (rw [if_neg (by decide +kernel)]; exact ⟨rfl, rfl⟩))
    (fun os started H enc _ F => judgeCounts_lifted os started H enc F)
end Go.Proofs.YtnoggcmfnmmjcaaGreat
