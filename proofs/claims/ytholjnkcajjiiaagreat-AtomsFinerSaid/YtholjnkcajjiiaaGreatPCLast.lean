/-
  the law AtomsFiner returns true for every input; no conditions.
-/
import Derived.Test.YtholjnkcajjiiaaGreatRows
import Derived.Deep.CondSized
import Derived.Test.YtholjnkcajjiiaaGreatPC7
set_option linter.unusedVariables false
namespace Go.Proofs.YtholjnkcajjiiaaGreat
open Go.Am Go.ChangeShapes Go.WideShapes Go.ChangeAt Go.RowKit

theorem own : ownKnob Tryz.prog.godebug = none := by kernel_rfl
theorem laidOut : laidOutB Tryz.prog = true := by kernel_rfl
theorem shOf : [4, 67, 34, 32, 32].mapM (shT Tryz.prog 10) = some [[.bool], [.sl addrSh], pfxSh, addrSh, addrSh] := by kernel_rfl

theorem lm0 : (Rows.atomsFinerRow.wf (OpenSpec.ofChange Rows.atomsFinerSpec)) = true := by kernel_rfl
theorem lm1 : (laidOutB Tryz.prog) = true := by kernel_rfl
theorem lm2 : (mapsRowed Tryz.prog) = true := by kernel_rfl
theorem lm3 : ((Tryz.f12).params.all (Tryz.prog.readableRec ·)) = true := by kernel_rfl
theorem lm4 : (namedTie Tryz.prog Rows.atomsFinerRow.named Rows.atomsFinerSpec.vars) = true := by kernel_rfl
theorem lm5 : ((Rows.atomsFinerRow.stops == [])) = true := by kernel_rfl
theorem lm6 : ((Tryz.prog.stops == [])) = true := by kernel_rfl
theorem lm7 : ((Rows.atomsFinerRow.knobs == [])) = true := by kernel_rfl
theorem lm8 : ((Tryz.prog.stopKnobs == [])) = true := by kernel_rfl
theorem lm9 : ((Rows.atomsFinerRow.inPlace == Tryz.prog.inPlace 12)) = true := by kernel_rfl
theorem lm10 : ((Rows.atomsFinerRow.unfollowed == Tryz.prog.unfollowed 12)) = true := by kernel_rfl
theorem lm11 : ((Rows.atomsFinerRow.recurses == Tryz.prog.recurses 12)) = true := by kernel_rfl
theorem lm12 : ((Rows.atomsFinerRow.named == Tryz.prog.varsNamed 12)) = true := by kernel_rfl
theorem lm13 : ((Rows.atomsFinerRow.maps == ((Tryz.f12).params.toList ++ Rows.atomsFinerSpec.plain.varTypes Tryz.prog).any (Tryz.prog.mapsRec ·))) = true := by kernel_rfl
theorem lm14 : ((Rows.atomsFinerRow.ifaces == ((Tryz.f12).params.toList ++ Rows.atomsFinerSpec.plain.varTypes Tryz.prog).any (Tryz.prog.ifacesRec ·))) = true := by kernel_rfl
theorem lm15 : ((Rows.atomsFinerRow.mapsOut == Tryz.prog.mapsAmong (Tryz.f12).resultTypes.toList)) = true := by kernel_rfl
theorem lm16 : ((Rows.atomsFinerRow.loops == ((Tryz.f12).params.toList ++ Rows.atomsFinerSpec.plain.varTypes Tryz.prog).any (Tryz.prog.loopsFrom ·))) = true := by kernel_rfl
theorem lm17 : ((Rows.atomsFinerRow.wideKeys == ((Tryz.f12).params.toList ++ Rows.atomsFinerSpec.plain.varTypes Tryz.prog ++ (Tryz.f12).resultTypes.toList).any (Tryz.prog.wideKeysFrom ·))) = true := by kernel_rfl
theorem lm18 : (Rows.atomsFinerSpec.vars.all (Tryz.prog.varReadable ·)) = true := by kernel_rfl
theorem lm19 : ((Tryz.f12).resultTypes.all (fun t => Tryz.prog.readableRec t && decide (t < Tryz.prog.types.size))) = true := by kernel_rfl
theorem lm20 : ((Rows.atomsFinerRow.ifacesOut == (Tryz.f12).resultTypes.toList.any (Tryz.prog.ifacesRec ·))) = true := by kernel_rfl
theorem lm21 : ((Rows.atomsFinerRow.loopsOut == (Tryz.f12).resultTypes.toList.any (Tryz.prog.loopsFrom ·))) = true := by kernel_rfl
theorem lm22 : ((Rows.atomsFinerRow.plainKeys == Tryz.prog.plainKeys)) = true := by kernel_rfl
theorem lm23 : (Rows.atomsFinerRow.shortTexts.isNone) = true := by kernel_rfl
theorem lm24 : (Tryz.prog.stopsHeard) = true := by kernel_rfl
theorem lm25 : (Tryz.prog.mayEnter) = true := by kernel_rfl
theorem lm26 : ((Rows.atomsFinerRow.lifted == Tryz.prog.liftsFinal)) = true := by kernel_rfl
theorem lm27 : ((Tryz.prog.make == some Rows.atomsFinerRow.make)) = true := by kernel_rfl
theorem lm28 : ((Rows.atomsFinerRow.kinds == [])) = true := by kernel_rfl
theorem lm29 : ((Rows.atomsFinerRow.pinned == Rows.atomsFinerRow.pinnedBy)) = true := by kernel_rfl
theorem lm30 : ((Rows.atomsFinerRow.veiled == ((Tryz.f12).params.toList ++ Rows.atomsFinerSpec.plain.varTypes Tryz.prog ++ (Tryz.f12).resultTypes.toList).any (Tryz.prog.veiledRec ·))) = true := by kernel_rfl
theorem lm31 : (Rows.atomsFinerRow.veiledFits Tryz.prog (Tryz.f12).params.toList ((Tryz.f12).params.toList ++ Rows.atomsFinerSpec.plain.varTypes Tryz.prog ++ (Tryz.f12).resultTypes.toList)) = true := by kernel_rfl
theorem lmD : Rows.atomsFinerRow.domain.isEmpty = true := rfl
theorem closed : joinedFacts Tryz.prog 12 Tryz.f12 Rows.atomsFinerSpec Rows.atomsFinerRow = true := by
  unfold joinedFacts
  rw [lm0, lm1, lm2, lm3, lm4, lm5, lm6, lm7, lm8, lm9, lm10, lm11, lm12, lm13, lm14, lm15, lm16, lm17, lm18, lm19, lm20, lm21, lm22, lm23, lm24, lm25, lm26, lm27, if_pos lmD, lm28, lm29, lm30, lm31]
  rfl

set_option maxRecDepth 100000 in
theorem lifted (os : Os) (started : os.Started) (H : Type) (enc : TypeId × Value → H) :
    ReturnsInHanded {} Tryz.checked os 12 .any (Rows.atomsFinerSpec.pre6 enc Tryz.prog Tryz.f12 Rows.atomsFinerRow.domain false) (Rows.atomsFinerSpec.post enc Tryz.prog Tryz.f12 false true false false) := by
  refine returnsInHanded_of_change (C := Tryz.checked) own started (by kernel_rfl) Tryz.func12
    (ChangeSpec.witness6 (enc := enc) (C := Tryz.checked) false ⟨#[], #[.bool false, .slice none 0 0, .agg #[.bool false, .int .u64 0, .int .u64 0, .int .i64 0], .agg #[.int .u64 0, .int .u64 0], .agg #[.int .u64 0, .int .u64 0]], []⟩ 8 (by kernel_rfl) (by kernel_rfl) (by kernel_rfl) (by kernel_rfl)) ?_
  intro W base args ds gs before hval hW _ _
  refine law_contract (n := 10) (ss := [[.bool], [.sl addrSh], pfxSh, addrSh, addrSh]) (ts := [4, 67, 34, 32, 32]) (tb := 4) laidOut rfl rfl Tryz.underlying4 (by kernel_rfl) shOf rfl hval hW ?_ ?_
  · intro xs hx _
    obtain ⟨six, l, p, a, b, hl, hp, ha, hb, e_⟩ := args_finer hx
    rw [e_]
    exact atomsFiner_spec six l p a b hl hp ha hb
  · intro d hd
    match d, hd with
    | [_, _, _, _, _], _ => rfl
theorem atomsFiner_holds : Rows.AtomsFinerSaid :=
  OpenClaim.holds_of_wide 12 Tryz.f12 rfl rfl rfl rfl rfl rfl rfl ⟨rfl, rfl, rfl, rfl, rfl⟩ rfl rfl rfl rfl rfl (by kernel_rfl) Tryz.func12 closed
    (of_decide_eq_true (by kernel_rfl)) (by unfold Func.isWrapper; first | (rw [if_pos (by decide +kernel)]; kernel_rfl) | (rw [if_neg (by decide +kernel)]; exact ⟨rfl, rfl⟩))
    (fun os started H enc _ => lifted os started H enc)
end Go.Proofs.YtholjnkcajjiiaaGreat
