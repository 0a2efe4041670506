/-
  the law AtomsAlike returns true for every input; no conditions.
-/
import Derived.Test.YtholjnkcajjiiaaGreatRows
import Derived.Deep.CondSized
import Derived.Test.YtholjnkcajjiiaaGreatPD7
set_option linter.unusedVariables false
namespace Go.Proofs.YtholjnkcajjiiaaGreat
open Go.Am Go.ChangeShapes Go.WideShapes Go.ChangeAt Go.RowKit

theorem own : ownKnob Tryz.prog.godebug = none := by kernel_rfl
theorem laidOut : laidOutB Tryz.prog = true := by kernel_rfl
theorem shOf : [28, 4, 32, 32, 2].mapM (shT Tryz.prog 10) = some [pastSh, [.bool], addrSh, addrSh, [.int .i64]] := by kernel_rfl

theorem lm0 : (Rows.atomsAlikeRow.wf (OpenSpec.ofChange Rows.atomsAlikeSpec)) = true := by kernel_rfl
theorem lm1 : (laidOutB Tryz.prog) = true := by kernel_rfl
theorem lm2 : (mapsRowed Tryz.prog) = true := by kernel_rfl
theorem lm3 : ((Tryz.f13).params.all (Tryz.prog.readableRec ·)) = true := by kernel_rfl
theorem lm4 : (namedTie Tryz.prog Rows.atomsAlikeRow.named Rows.atomsAlikeSpec.vars) = true := by kernel_rfl
theorem lm5 : ((Rows.atomsAlikeRow.stops == [])) = true := by kernel_rfl
theorem lm6 : ((Tryz.prog.stops == [])) = true := by kernel_rfl
theorem lm7 : ((Rows.atomsAlikeRow.knobs == [])) = true := by kernel_rfl
theorem lm8 : ((Tryz.prog.stopKnobs == [])) = true := by kernel_rfl
theorem lm9 : ((Rows.atomsAlikeRow.inPlace == Tryz.prog.inPlace 13)) = true := by kernel_rfl
theorem lm10 : ((Rows.atomsAlikeRow.unfollowed == Tryz.prog.unfollowed 13)) = true := by kernel_rfl
theorem lm11 : ((Rows.atomsAlikeRow.recurses == Tryz.prog.recurses 13)) = true := by kernel_rfl
theorem lm12 : ((Rows.atomsAlikeRow.named == Tryz.prog.varsNamed 13)) = true := by kernel_rfl
theorem lm13 : ((Rows.atomsAlikeRow.maps == ((Tryz.f13).params.toList ++ Rows.atomsAlikeSpec.plain.varTypes Tryz.prog).any (Tryz.prog.mapsRec ·))) = true := by kernel_rfl
theorem lm14 : ((Rows.atomsAlikeRow.ifaces == ((Tryz.f13).params.toList ++ Rows.atomsAlikeSpec.plain.varTypes Tryz.prog).any (Tryz.prog.ifacesRec ·))) = true := by kernel_rfl
theorem lm15 : ((Rows.atomsAlikeRow.mapsOut == Tryz.prog.mapsAmong (Tryz.f13).resultTypes.toList)) = true := by kernel_rfl
theorem lm16 : ((Rows.atomsAlikeRow.loops == ((Tryz.f13).params.toList ++ Rows.atomsAlikeSpec.plain.varTypes Tryz.prog).any (Tryz.prog.loopsFrom ·))) = true := by kernel_rfl
theorem lm17 : ((Rows.atomsAlikeRow.wideKeys == ((Tryz.f13).params.toList ++ Rows.atomsAlikeSpec.plain.varTypes Tryz.prog ++ (Tryz.f13).resultTypes.toList).any (Tryz.prog.wideKeysFrom ·))) = true := by kernel_rfl
theorem lm18 : (Rows.atomsAlikeSpec.vars.all (Tryz.prog.varReadable ·)) = true := by kernel_rfl
theorem lm19 : ((Tryz.f13).resultTypes.all (fun t => Tryz.prog.readableRec t && decide (t < Tryz.prog.types.size))) = true := by kernel_rfl
theorem lm20 : ((Rows.atomsAlikeRow.ifacesOut == (Tryz.f13).resultTypes.toList.any (Tryz.prog.ifacesRec ·))) = true := by kernel_rfl
theorem lm21 : ((Rows.atomsAlikeRow.loopsOut == (Tryz.f13).resultTypes.toList.any (Tryz.prog.loopsFrom ·))) = true := by kernel_rfl
theorem lm22 : ((Rows.atomsAlikeRow.plainKeys == Tryz.prog.plainKeys)) = true := by kernel_rfl
theorem lm23 : (Rows.atomsAlikeRow.shortTexts.isNone) = true := by kernel_rfl
theorem lm24 : (Tryz.prog.stopsHeard) = true := by kernel_rfl
theorem lm25 : (Tryz.prog.mayEnter) = true := by kernel_rfl
theorem lm26 : ((Rows.atomsAlikeRow.lifted == Tryz.prog.liftsFinal)) = true := by kernel_rfl
theorem lm27 : ((Tryz.prog.make == some Rows.atomsAlikeRow.make)) = true := by kernel_rfl
theorem lm28 : ((Rows.atomsAlikeRow.kinds == [])) = true := by kernel_rfl
theorem lm29 : ((Rows.atomsAlikeRow.pinned == Rows.atomsAlikeRow.pinnedBy)) = true := by kernel_rfl
theorem lm30 : ((Rows.atomsAlikeRow.veiled == ((Tryz.f13).params.toList ++ Rows.atomsAlikeSpec.plain.varTypes Tryz.prog ++ (Tryz.f13).resultTypes.toList).any (Tryz.prog.veiledRec ·))) = true := by kernel_rfl
theorem lm31 : (Rows.atomsAlikeRow.veiledFits Tryz.prog (Tryz.f13).params.toList ((Tryz.f13).params.toList ++ Rows.atomsAlikeSpec.plain.varTypes Tryz.prog ++ (Tryz.f13).resultTypes.toList)) = true := by kernel_rfl
theorem lmD : Rows.atomsAlikeRow.domain.isEmpty = true := rfl
theorem closed : joinedFacts Tryz.prog 13 Tryz.f13 Rows.atomsAlikeSpec Rows.atomsAlikeRow = true := by
  unfold joinedFacts
  rw [lm0, lm1, lm2, lm3, lm4, lm5, lm6, lm7, lm8, lm9, lm10, lm11, lm12, lm13, lm14, lm15, lm16, lm17, lm18, lm19, lm20, lm21, lm22, lm23, lm24, lm25, lm26, lm27, if_pos lmD, lm28, lm29, lm30, lm31]
  rfl

set_option maxRecDepth 100000 in
theorem lifted (os : Os) (started : os.Started) (H : Type) (enc : TypeId × Value → H) :
    ReturnsInHanded {} Tryz.checked os 13 .any (Rows.atomsAlikeSpec.pre6 enc Tryz.prog Tryz.f13 Rows.atomsAlikeRow.domain false) (Rows.atomsAlikeSpec.post enc Tryz.prog Tryz.f13 false true false false) := by
  refine returnsInHanded_of_change (C := Tryz.checked) own started (by kernel_rfl) Tryz.func13
    (ChangeSpec.witness6 (enc := enc) (C := Tryz.checked) false ⟨#[], #[.agg #[.slice none 0 0, .slice none 0 0, .int .i64 0, .slice none 0 0], .bool false, .agg #[.int .u64 0, .int .u64 0], .agg #[.int .u64 0, .int .u64 0], .int .i64 0], []⟩ 8 (by kernel_rfl) (by kernel_rfl) (by kernel_rfl) (by kernel_rfl)) ?_
  intro W base args ds gs before hval hW _ _
  refine law_contract (n := 10) (ss := [pastSh, [.bool], addrSh, addrSh, [.int .i64]]) (ts := [28, 4, 32, 32, 2]) (tb := 4) laidOut rfl rfl Tryz.underlying4 (by kernel_rfl) shOf rfl hval hW ?_ ?_
  · intro xs hx _
    obtain ⟨p, six, a, b, t, hp, ha, hb, e_⟩ := args_alike hx
    rw [e_]
    exact atomsAlike_spec p six a b t hp ha hb
  · intro d hd
    match d, hd with
    | [_, _, _, _, _], _ => rfl
theorem atomsAlike_holds : Rows.AtomsAlikeSaid :=
  OpenClaim.holds_of_wide 13 Tryz.f13 rfl rfl rfl rfl rfl rfl rfl ⟨rfl, rfl, rfl, rfl, rfl⟩ rfl rfl rfl rfl rfl (by kernel_rfl) Tryz.func13 closed
    (of_decide_eq_true (by kernel_rfl)) (by unfold Func.isWrapper; first | (rw [if_pos (by decide +kernel)]; kernel_rfl) | (rw [if_neg (by decide +kernel)]; exact ⟨rfl, rfl⟩))
    (fun os started H enc _ => lifted os started H enc)
end Go.Proofs.YtholjnkcajjiiaaGreat
