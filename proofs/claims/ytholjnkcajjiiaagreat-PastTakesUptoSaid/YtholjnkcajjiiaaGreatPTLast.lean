/-
  the law PastTakes returns true for every input; no conditions but that the arguments together are of bulk at most 1048576.
-/
import Derived.Test.YtholjnkcajjiiaaGreatRows
import Derived.Deep.CondSized
import Derived.JoinedCond
import Derived.Test.YtholjnkcajjiiaaGreatPT6
set_option linter.unusedVariables false
namespace Go.Proofs.YtholjnkcajjiiaaGreat
open Go.Am Go.ChangeShapes Go.WideShapes Go.ChangeAt Go.RowKit

theorem own : ownKnob Tryz.prog.godebug = none := by kernel_rfl
theorem laidOut : laidOutB Tryz.prog = true := by kernel_rfl
theorem shOf : [28, 39, 2].mapM (shT Tryz.prog 10) = some [pastSh, evSh, [.int .i64]] := by kernel_rfl

theorem lm0 : (Rows.pastTakesUptoRow.wf (OpenSpec.ofChange (Rows.OpenSpec.upto Rows.pastTakesSpec).bare)) = true := by kernel_rfl
theorem lm1 : (laidOutB Tryz.prog) = true := by kernel_rfl
theorem lm2 : (mapsRowed Tryz.prog) = true := by kernel_rfl
theorem lm3 : ((Tryz.f3).params.all (Tryz.prog.readableRec ·)) = true := by kernel_rfl
theorem lm4 : (namedTie Tryz.prog Rows.pastTakesUptoRow.named (Rows.OpenSpec.upto Rows.pastTakesSpec).bare.vars) = true := by kernel_rfl
theorem lm5 : ((Rows.pastTakesUptoRow.stops == [])) = true := by kernel_rfl
theorem lm6 : ((Tryz.prog.stops == [])) = true := by kernel_rfl
theorem lm7 : ((Rows.pastTakesUptoRow.knobs == [])) = true := by kernel_rfl
theorem lm8 : ((Tryz.prog.stopKnobs == [])) = true := by kernel_rfl
theorem lm9 : ((Rows.pastTakesUptoRow.inPlace == Tryz.prog.inPlace 3)) = true := by kernel_rfl
theorem lm10 : ((Rows.pastTakesUptoRow.unfollowed == Tryz.prog.unfollowed 3)) = true := by kernel_rfl
theorem lm11 : ((Rows.pastTakesUptoRow.recurses == Tryz.prog.recurses 3)) = true := by kernel_rfl
theorem lm12 : ((Rows.pastTakesUptoRow.named == Tryz.prog.varsNamed 3)) = true := by kernel_rfl
theorem lm13 : ((Rows.pastTakesUptoRow.maps == ((Tryz.f3).params.toList ++ (Rows.OpenSpec.upto Rows.pastTakesSpec).bare.plain.varTypes Tryz.prog).any (Tryz.prog.mapsRec ·))) = true := by kernel_rfl
theorem lm14 : ((Rows.pastTakesUptoRow.ifaces == ((Tryz.f3).params.toList ++ (Rows.OpenSpec.upto Rows.pastTakesSpec).bare.plain.varTypes Tryz.prog).any (Tryz.prog.ifacesRec ·))) = true := by kernel_rfl
theorem lm15 : ((Rows.pastTakesUptoRow.mapsOut == Tryz.prog.mapsAmong (Tryz.f3).resultTypes.toList)) = true := by kernel_rfl
theorem lm16 : ((Rows.pastTakesUptoRow.loops == ((Tryz.f3).params.toList ++ (Rows.OpenSpec.upto Rows.pastTakesSpec).bare.plain.varTypes Tryz.prog).any (Tryz.prog.loopsFrom ·))) = true := by kernel_rfl
theorem lm17 : ((Rows.pastTakesUptoRow.wideKeys == ((Tryz.f3).params.toList ++ (Rows.OpenSpec.upto Rows.pastTakesSpec).bare.plain.varTypes Tryz.prog ++ (Tryz.f3).resultTypes.toList).any (Tryz.prog.wideKeysFrom ·))) = true := by kernel_rfl
theorem lm18 : ((Rows.OpenSpec.upto Rows.pastTakesSpec).bare.vars.all (Tryz.prog.varReadable ·)) = true := by kernel_rfl
theorem lm19 : ((Tryz.f3).resultTypes.all (fun t => Tryz.prog.readableRec t && decide (t < Tryz.prog.types.size))) = true := by kernel_rfl
theorem lm20 : ((Rows.pastTakesUptoRow.ifacesOut == (Tryz.f3).resultTypes.toList.any (Tryz.prog.ifacesRec ·))) = true := by kernel_rfl
theorem lm21 : ((Rows.pastTakesUptoRow.loopsOut == (Tryz.f3).resultTypes.toList.any (Tryz.prog.loopsFrom ·))) = true := by kernel_rfl
theorem lm22 : ((Rows.pastTakesUptoRow.plainKeys == Tryz.prog.plainKeys)) = true := by kernel_rfl
theorem lm23 : (Rows.pastTakesUptoRow.shortTexts.isNone) = true := by kernel_rfl
theorem lm24 : (Tryz.prog.stopsHeard) = true := by kernel_rfl
theorem lm25 : (Tryz.prog.mayEnter) = true := by kernel_rfl
theorem lm26 : ((Rows.pastTakesUptoRow.lifted == Tryz.prog.liftsFinal)) = true := by kernel_rfl
theorem lm27 : ((Tryz.prog.make == some Rows.pastTakesUptoRow.make)) = true := by kernel_rfl
theorem lm28 : ((Rows.pastTakesUptoRow.kinds == [])) = true := by kernel_rfl
theorem lm29 : ((Rows.pastTakesUptoRow.pinned == Rows.pastTakesUptoRow.pinnedBy)) = true := by kernel_rfl
theorem lm30 : ((Rows.pastTakesUptoRow.veiled == ((Tryz.f3).params.toList ++ (Rows.OpenSpec.upto Rows.pastTakesSpec).bare.plain.varTypes Tryz.prog ++ (Tryz.f3).resultTypes.toList).any (Tryz.prog.veiledRec ·))) = true := by kernel_rfl
theorem lm31 : (Rows.pastTakesUptoRow.veiledFits Tryz.prog (Tryz.f3).params.toList ((Tryz.f3).params.toList ++ (Rows.OpenSpec.upto Rows.pastTakesSpec).bare.plain.varTypes Tryz.prog ++ (Tryz.f3).resultTypes.toList)) = true := by kernel_rfl
theorem lmD : Rows.pastTakesUptoRow.domain.isEmpty = true := rfl
theorem closed : joinedFacts Tryz.prog 3 Tryz.f3 (Rows.OpenSpec.upto Rows.pastTakesSpec).bare Rows.pastTakesUptoRow = true := by
  unfold joinedFacts
  rw [lm0, lm1, lm2, lm3, lm4, lm5, lm6, lm7, lm8, lm9, lm10, lm11, lm12, lm13, lm14, lm15, lm16, lm17, lm18, lm19, lm20, lm21, lm22, lm23, lm24, lm25, lm26, lm27, if_pos lmD, lm28, lm29, lm30, lm31]
  rfl

mutual
theorem bulk_eq {H : Type} : ∀ d : DataW H, Rows.uptoBulk d = dBulk d
  | .lit l => by cases l <;> simp [Rows.uptoBulk, dBulk]
  | .nil => by simp [Rows.uptoBulk, dBulk]
  | .ptr d => by simp [Rows.uptoBulk, dBulk, bulk_eq d]
  | .slice elems spare => by simp [Rows.uptoBulk, dBulk, bulkAll_eq elems, bulkAll_eq spare]
  | .agg parts => by simp [Rows.uptoBulk, dBulk, bulkAll_eq parts]
  | .iface _ d => by simp [Rows.uptoBulk, dBulk, bulk_eq d]
  | .map entries => by simp [Rows.uptoBulk, dBulk, bulkEntries_eq entries]
  | .held _ => by simp [Rows.uptoBulk, dBulk]
theorem bulkAll_eq {H : Type} : ∀ l : List (DataW H), Rows.uptoBulkAll l = dBulkAll l
  | [] => by simp [Rows.uptoBulkAll, dBulkAll]
  | d :: r => by simp [Rows.uptoBulkAll, dBulkAll, bulk_eq d, bulkAll_eq r]
theorem bulkEntries_eq {H : Type} : ∀ l : List (Lit × DataW H), Rows.uptoBulkEntries l = dBulkEntries l
  | [] => by simp [Rows.uptoBulkEntries, dBulkEntries]
  | x :: r => by simp [Rows.uptoBulkEntries, dBulkEntries, bulkEntry_eq x, bulkEntries_eq r]
theorem bulkEntry_eq {H : Type} : ∀ x : Lit × DataW H, Rows.uptoBulkEntry x = dBulkEntry x
  | (l, d) => by cases l <;> simp [Rows.uptoBulkEntry, dBulkEntry, bulk_eq d]
end
theorem small_le {H : Type} {l : List (DataW H)} (h : Rows.uptoSmall H l = true) : dBulkAll l ≤ 1048576 := by
  rw [← bulkAll_eq]
  exact of_decide_eq_true h

set_option maxRecDepth 100000 in
theorem lifted (os : Os) (started : os.Started) (H : Type) (enc : TypeId × Value → H) (F : Stop.Interp) :
    ReturnsInHanded {} Tryz.checked os 3 .any ((Rows.OpenSpec.upto Rows.pastTakesSpec).pre6 enc Tryz.prog Tryz.f3 Rows.pastTakesUptoRow.domain false) (((Rows.OpenSpec.upto Rows.pastTakesSpec).at F).post enc Tryz.prog Tryz.f3 false true false false) := by
  refine returnsInHanded_of_cond (C := Tryz.checked) (s := Rows.OpenSpec.upto Rows.pastTakesSpec) (k := Rows.uptoSmall) rfl own started (by kernel_rfl) Tryz.func3
    (OpenSpec.witness (enc := enc) (C := Tryz.checked) (s := Rows.OpenSpec.upto Rows.pastTakesSpec) (k := Rows.uptoSmall) rfl false ⟨#[], #[.agg #[.slice none 0 0, .slice none 0 0, .int .i64 0, .slice none 0 0], .agg #[.int .u8 0, .int .i64 0, .int .u64 0, .int .i64 0, .bool false, .int .u64 0, .int .u64 0, .int .i64 0, .int .u8 0, .int .i64 0, .int .i64 0, .int .i64 0], .int .i64 0], []⟩ 8 (by kernel_rfl) (by kernel_rfl) (by kernel_rfl)
      (x := ([.agg [.agg [.nil, .nil], .lit (.int .i64 0), .nil], .agg [.lit (.int .u8 0), .lit (.int .i64 0), .lit (.int .u64 0), .lit (.int .i64 0), .agg [.lit (.bool false), .agg [.lit (.int .u64 0), .lit (.int .u64 0)], .lit (.int .i64 0)], .agg [.lit (.int .u8 0), .lit (.int .i64 0)], .lit (.int .i64 0), .lit (.int .i64 0)], .lit (.int .i64 0)], [], [])) (by kernel_rfl) rfl (by kernel_rfl)) ?_
  intro W base args ds gs before hval hW _ hk _
  have hk' := small_le hk
  refine law_contract (n := 10) (ss := [pastSh, evSh, [.int .i64]]) (ts := [28, 39, 2]) (tb := 4) laidOut rfl rfl Tryz.underlying4 (by kernel_rfl) shOf rfl hval hW ?_ ?_
  · intro xs hx hb
    have hb' := Nat.le_trans hb hk'
    obtain ⟨p, e, t, hp, he, hl, e_⟩ := args_takes hx hb'
    rw [e_]
    exact pastTakes_spec p e t hp he.1 he.2 hl.1 hl.2.1 hl.2.2.1 hl.2.2.2
  · intro d hd
    match d, hd with
    | [_, _, _], _ => rfl
theorem pastTakes_holds : Rows.PastTakesUptoSaid :=
  OpenClaim.holds_of_cond 3 Tryz.f3 rfl rfl rfl rfl rfl rfl rfl ⟨rfl, rfl, rfl, rfl, rfl⟩ rfl rfl rfl rfl rfl (by kernel_rfl) Tryz.func3 closed
    (of_decide_eq_true (by kernel_rfl)) (by unfold Func.isWrapper; first | (rw [if_pos (by decide +kernel)]; kernel_rfl) | (rw [if_neg (by decide +kernel)]; exact ⟨rfl, rfl⟩))
    (fun os started H enc _ F => lifted os started H enc F)
end Go.Proofs.YtholjnkcajjiiaaGreat
