/-
  the law PastBetween returns true for every input; no conditions.
-/
import Derived.Test.YtholjnkcajjiiaaGreatRows
import Derived.Deep.CondSized
import Derived.Test.YtholjnkcajjiiaaGreatPE6
set_option linter.unusedVariables false
namespace Go.Proofs.YtholjnkcajjiiaaGreat
open Go.Am Go.ChangeShapes Go.WideShapes Go.ChangeAt Go.RowKit

theorem own : ownKnob Tryz.prog.godebug = none := by kernel_rfl
theorem laidOut : laidOutB Tryz.prog = true := by kernel_rfl
theorem shOf : [28, 53].mapM (shT Tryz.prog 10) = some [pastSh, ivlSh] := by kernel_rfl

theorem lm0 : (Rows.pastBetweenRow.wf (OpenSpec.ofChange Rows.pastBetweenSpec)) = true := by kernel_rfl
theorem lm1 : (laidOutB Tryz.prog) = true := by kernel_rfl
theorem lm2 : (mapsRowed Tryz.prog) = true := by kernel_rfl
theorem lm3 : ((Tryz.f7).params.all (Tryz.prog.readableRec ·)) = true := by kernel_rfl
theorem lm4 : (namedTie Tryz.prog Rows.pastBetweenRow.named Rows.pastBetweenSpec.vars) = true := by kernel_rfl
theorem lm5 : ((Rows.pastBetweenRow.stops == [])) = true := by kernel_rfl
theorem lm6 : ((Tryz.prog.stops == [])) = true := by kernel_rfl
theorem lm7 : ((Rows.pastBetweenRow.knobs == [])) = true := by kernel_rfl
theorem lm8 : ((Tryz.prog.stopKnobs == [])) = true := by kernel_rfl
theorem lm9 : ((Rows.pastBetweenRow.inPlace == Tryz.prog.inPlace 7)) = true := by kernel_rfl
theorem lm10 : ((Rows.pastBetweenRow.unfollowed == Tryz.prog.unfollowed 7)) = true := by kernel_rfl
theorem lm11 : ((Rows.pastBetweenRow.recurses == Tryz.prog.recurses 7)) = true := by kernel_rfl
theorem lm12 : ((Rows.pastBetweenRow.named == Tryz.prog.varsNamed 7)) = true := by kernel_rfl
theorem lm13 : ((Rows.pastBetweenRow.maps == ((Tryz.f7).params.toList ++ Rows.pastBetweenSpec.plain.varTypes Tryz.prog).any (Tryz.prog.mapsRec ·))) = true := by kernel_rfl
theorem lm14 : ((Rows.pastBetweenRow.ifaces == ((Tryz.f7).params.toList ++ Rows.pastBetweenSpec.plain.varTypes Tryz.prog).any (Tryz.prog.ifacesRec ·))) = true := by kernel_rfl
theorem lm15 : ((Rows.pastBetweenRow.mapsOut == Tryz.prog.mapsAmong (Tryz.f7).resultTypes.toList)) = true := by kernel_rfl
theorem lm16 : ((Rows.pastBetweenRow.loops == ((Tryz.f7).params.toList ++ Rows.pastBetweenSpec.plain.varTypes Tryz.prog).any (Tryz.prog.loopsFrom ·))) = true := by kernel_rfl
theorem lm17 : ((Rows.pastBetweenRow.wideKeys == ((Tryz.f7).params.toList ++ Rows.pastBetweenSpec.plain.varTypes Tryz.prog ++ (Tryz.f7).resultTypes.toList).any (Tryz.prog.wideKeysFrom ·))) = true := by kernel_rfl
theorem lm18 : (Rows.pastBetweenSpec.vars.all (Tryz.prog.varReadable ·)) = true := by kernel_rfl
theorem lm19 : ((Tryz.f7).resultTypes.all (fun t => Tryz.prog.readableRec t && decide (t < Tryz.prog.types.size))) = true := by kernel_rfl
theorem lm20 : ((Rows.pastBetweenRow.ifacesOut == (Tryz.f7).resultTypes.toList.any (Tryz.prog.ifacesRec ·))) = true := by kernel_rfl
theorem lm21 : ((Rows.pastBetweenRow.loopsOut == (Tryz.f7).resultTypes.toList.any (Tryz.prog.loopsFrom ·))) = true := by kernel_rfl
theorem lm22 : ((Rows.pastBetweenRow.plainKeys == Tryz.prog.plainKeys)) = true := by kernel_rfl
theorem lm23 : (Rows.pastBetweenRow.shortTexts.isNone) = true := by kernel_rfl
theorem lm24 : (Tryz.prog.stopsHeard) = true := by kernel_rfl
theorem lm25 : (Tryz.prog.mayEnter) = true := by kernel_rfl
theorem lm26 : ((Rows.pastBetweenRow.lifted == Tryz.prog.liftsFinal)) = true := by kernel_rfl
theorem lm27 : ((Tryz.prog.make == some Rows.pastBetweenRow.make)) = true := by kernel_rfl
theorem lm28 : ((Rows.pastBetweenRow.kinds == [])) = true := by kernel_rfl
theorem lm29 : ((Rows.pastBetweenRow.pinned == Rows.pastBetweenRow.pinnedBy)) = true := by kernel_rfl
theorem lm30 : ((Rows.pastBetweenRow.veiled == ((Tryz.f7).params.toList ++ Rows.pastBetweenSpec.plain.varTypes Tryz.prog ++ (Tryz.f7).resultTypes.toList).any (Tryz.prog.veiledRec ·))) = true := by kernel_rfl
theorem lm31 : (Rows.pastBetweenRow.veiledFits Tryz.prog (Tryz.f7).params.toList ((Tryz.f7).params.toList ++ Rows.pastBetweenSpec.plain.varTypes Tryz.prog ++ (Tryz.f7).resultTypes.toList)) = true := by kernel_rfl
theorem lmD : Rows.pastBetweenRow.domain.isEmpty = true := rfl
theorem closed : joinedFacts Tryz.prog 7 Tryz.f7 Rows.pastBetweenSpec Rows.pastBetweenRow = true := by
  unfold joinedFacts
  rw [lm0, lm1, lm2, lm3, lm4, lm5, lm6, lm7, lm8, lm9, lm10, lm11, lm12, lm13, lm14, lm15, lm16, lm17, lm18, lm19, lm20, lm21, lm22, lm23, lm24, lm25, lm26, lm27, if_pos lmD, lm28, lm29, lm30, lm31]
  rfl

set_option maxRecDepth 100000 in
theorem lifted (os : Os) (started : os.Started) (H : Type) (enc : TypeId × Value → H) :
    ReturnsInHanded {} Tryz.checked os 7 .any (Rows.pastBetweenSpec.pre6 enc Tryz.prog Tryz.f7 Rows.pastBetweenRow.domain false) (Rows.pastBetweenSpec.post enc Tryz.prog Tryz.f7 false true false false) := by
  refine returnsInHanded_of_change (C := Tryz.checked) own started (by kernel_rfl) Tryz.func7
    (ChangeSpec.witness6 (enc := enc) (C := Tryz.checked) false ⟨#[], #[.agg #[.slice none 0 0, .slice none 0 0, .int .i64 0, .slice none 0 0], .agg #[.int .i64 0, .int .i64 0]], []⟩ 8 (by kernel_rfl) (by kernel_rfl) (by kernel_rfl) (by kernel_rfl)) ?_
  intro W base args ds gs before hval hW _ _
  refine law_contract (n := 10) (ss := [pastSh, ivlSh]) (ts := [28, 53]) (tb := 4) laidOut rfl rfl Tryz.underlying4 (by kernel_rfl) shOf rfl hval hW ?_ ?_
  · intro xs hx _
    obtain ⟨p, a, b, hp, e_⟩ := args_between hx
    rw [e_]
    exact pastBetween_spec p a b hp
  · intro d hd
    match d, hd with
    | [_, _], _ => rfl
theorem pastBetween_holds : Rows.PastBetweenSaid :=
  OpenClaim.holds_of_wide 7 Tryz.f7 rfl rfl rfl rfl rfl rfl rfl ⟨rfl, rfl, rfl, rfl, rfl⟩ rfl rfl rfl rfl rfl (by kernel_rfl) Tryz.func7 closed
    (of_decide_eq_true (by kernel_rfl)) (by unfold Func.isWrapper; first | (rw [if_pos (by decide +kernel)]; kernel_rfl) | (rw [if_neg (by decide +kernel)]; exact ⟨rfl, rfl⟩))
    (fun os started H enc _ => lifted os started H enc)
end Go.Proofs.YtholjnkcajjiiaaGreat
