import Derived.Test.YtholjnkcajjiiaaGreatPA7
set_option linter.unusedVariables false
set_option linter.unusedSimpArgs false
set_option pp.deepTerms false
set_option pp.deepTerms.threshold 40
namespace Go.Am
open Go.Proofs

theorem addrRow_of (y : List IV) (h : Sh.hasL addrSh y) : ∃ a : Addr4, a.wf ∧ y = a.iv := by
  obtain ⟨a, _, rfl, ha, h⟩ := hasL_cons h
  obtain ⟨b, _, rfl, hb, h⟩ := hasL_cons h
  cases hasL_nil h
  obtain ⟨a, rfl, wa⟩ := has_int ha
  obtain ⟨b, rfl, wb⟩ := has_int hb
  exact ⟨⟨a, b⟩, ⟨(u64_wf wa).1, (u64_wf wa).2, u64_wf wb⟩, rfl⟩
theorem bool_arg (y : List IV) (h : Sh.hasL [.bool] y) : ∃ t : Bool, argAV Tryz.prog 4 y = .bool t := by
  obtain ⟨a, _, rfl, ha, h⟩ := hasL_cons h
  cases hasL_nil h
  obtain ⟨a, rfl⟩ := has_bool ha
  refine ⟨a, ?_⟩
  simp only [argAV, Tryz.underlying4]
theorem cuts_arg (y : List IV) (h : Sh.hasL [.sl addrSh] y) : ∃ l : List Addr4, wfL l ∧ argAV Tryz.prog 67 y = .im (.sl 2 (l.map Addr4.iv)) := by
  obtain ⟨a, _, rfl, ha, h⟩ := hasL_cons h
  cases hasL_nil h
  obtain ⟨xs, rfl, hx⟩ := has_sl ha
  obtain ⟨l, rfl, hl⟩ := rows_of addrRow_of xs hx
  refine ⟨l, hl, ?_⟩
  simp only [argAV, Tryz.underlying67]
  rfl
theorem args_cut {xs : List (List IV)} (h : hasArgs [pastSh, [.bool], [.sl addrSh]] xs) : ∃ (p : Past) (six : Bool) (l : List Addr4), p.wf ∧ wfL l ∧ argsAV Tryz.prog [28, 4, 67] xs = [p.av, .bool six, .im (.sl 2 (l.map Addr4.iv))] := by
  obtain ⟨x, _, rfl, hx, h⟩ := hasArgs_cons h
  obtain ⟨y, _, rfl, hy, h⟩ := hasArgs_cons h
  obtain ⟨z, _, rfl, hz, h⟩ := hasArgs_cons h
  cases h
  obtain ⟨p, hp, ep⟩ := past_arg x hx
  obtain ⟨six, es⟩ := bool_arg y hy
  obtain ⟨l, hl, el⟩ := cuts_arg z hz
  refine ⟨p, six, l, hp, hl, ?_⟩
  simp only [argsAV, ep, es, el]
end Go.Am


set_option linter.unusedVariables false
set_option linter.unusedSimpArgs false
set_option pp.deepTerms false
set_option pp.deepTerms.threshold 40
namespace Go.Am
open Go.Proofs

theorem cutsF_len {p : Past} (h : okP p = true) (six : Bool) : (cutsF p six).length ≤ 1000000 := Nat.le_trans (sortA_len _) (rawC_len h six)
set_option maxRecDepth 8000 in
set_option maxHeartbeats 4000000 in
theorem atomsCut_spec (p : Past) (six : Bool) (l : List Addr4) (hw : p.wf) (hl : wfL l) : FSpec Tryz.prog 10 [p.av, .bool six, .im (.sl 2 (l.map Addr4.iv))] [] (.bool true) [] := by
  have g1 := cuts_spec p six hw
  have g2 := cutsr_spec p six hw
  have g3 := checkC_spec six l hl
  have g4 := checkCr_spec six l hl
  have hlen : (if okP p then cutsF p six else []).length ≤ 1000000 := by
    cases h : okP p with
    | true => exact cutsF_len h six
    | false => simp
  have ga := alike_spec (if okP p then cutsF p six else []) (by omega)
  generalize (if okP p then cutsF p six else []) = C at *
  generalize (if okP p then (0 : Int) else 2) = W at *
  generalize checkC six l = V at *
  refine FSpec.of_flat (q := []) Tryz.func10 (by kernel_rfl) rfl Tryz.ntmps10 Tryz.results10 hP (by kernel_rfl) (by simp) (by first | rfl | simp) ?_
  simp -implicitDefEqProofs
  first | refine CallK.same (g1) rfl rfl ?_ | refine CallQ.same (g1) rfl rfl ?_ | refine CallQG.same _ (g1) rfl ?_ | refine CallG.same _ (g1) rfl ?_ | refine CallK.pv (g1) rfl rfl ?_
  simp -implicitDefEqProofs
  first | refine CallK.same (g2) rfl rfl ?_ | refine CallQ.same (g2) rfl rfl ?_ | refine CallQG.same _ (g2) rfl ?_ | refine CallG.same _ (g2) rfl ?_ | refine CallK.pv (g2) rfl rfl ?_
  simp -implicitDefEqProofs
  first | refine CallK.same (lives22_spec) rfl rfl ?_ | refine CallQ.same (lives22_spec) rfl rfl ?_ | refine CallQG.same _ (lives22_spec) rfl ?_ | refine CallG.same _ (lives22_spec) rfl ?_ | refine CallK.pv (lives22_spec) rfl rfl ?_
  simp -implicitDefEqProofs
  first | refine CallG.off (.bool true) ?_ | (refine CallG.on ?_; first | refine CallK.same (ga) rfl rfl ?_ | refine CallQ.same (ga) rfl rfl ?_ | refine CallQG.same _ (ga) rfl ?_ | refine CallG.same _ (ga) rfl ?_ | refine CallK.pv (ga) rfl rfl ?_)
  simp -implicitDefEqProofs
  first | refine CallG.off (.bool true) ?_ | (refine CallG.on ?_; first | refine CallK.same (g3) rfl rfl ?_ | refine CallQ.same (g3) rfl rfl ?_ | refine CallQG.same _ (g3) rfl ?_ | refine CallG.same _ (g3) rfl ?_ | refine CallK.pv (g3) rfl rfl ?_)
  simp -implicitDefEqProofs
  first | refine CallG.off (.bool true) ?_ | (refine CallG.on ?_; first | refine CallK.same (g4) rfl rfl ?_ | refine CallQ.same (g4) rfl rfl ?_ | refine CallQG.same _ (g4) rfl ?_ | refine CallG.same _ (g4) rfl ?_ | refine CallK.pv (g4) rfl rfl ?_)
  simp -implicitDefEqProofs
end Go.Am

