import Derived.Test.YtholjnkcajjiiaaGreatP6
set_option linter.unusedVariables false
set_option linter.unusedSimpArgs false
set_option pp.deepTerms false
set_option pp.deepTerms.threshold 40
namespace Go.Am
open Go.Proofs

set_option maxRecDepth 8000 in
set_option maxHeartbeats 4000000 in
theorem pastLater_spec (p : Past) (e : Ev) (t : Int) (hew : ∀ e ∈ p.evs, 0 ≤ e.seq) (hsq : 0 ≤ e.seq) : FSpec Tryz.prog 8 [p.av, e.av, .int .i64 t] [] (.bool true) [] := by
  have h1 := takePo_spec p e hew hsq
  refine FSpec.of_flat (q := []) Tryz.func8 (by kernel_rfl) rfl Tryz.ntmps8 Tryz.results8 hP (by kernel_rfl) (by simp) (by first | rfl | simp) ?_
  simp -implicitDefEqProofs
  first | refine CallK.same (lives21_spec) rfl rfl ?_ | refine CallQ.same (lives21_spec) rfl rfl ?_ | refine CallQG.same _ (lives21_spec) rfl ?_ | refine CallG.same _ (lives21_spec) rfl ?_ | refine CallK.pv (lives21_spec) rfl rfl ?_
  simp -implicitDefEqProofs
  cases hok : okP p with
  | false =>
    have hr : takeP p e = (past0, 2) := by unfold takeP; rw [if_pos (.inl hok)]
    rw [hr] at h1
    simp only at h1
    first | refine CallK.same (h1) rfl rfl ?_ | refine CallQ.same (h1) rfl rfl ?_ | refine CallQG.same _ (h1) rfl ?_ | refine CallG.same _ (h1) rfl ?_ | refine CallK.pv (h1) rfl rfl ?_
    simp -implicitDefEqProofs
  | true =>
    rcases takeP_cases e hok with ⟨w, ht⟩ | ⟨w, ht⟩ | ⟨w0, w2, ht⟩
    · obtain ⟨k1, k2, _⟩ := addP_ok hok w
      have g1 := atO_spec p t hew
      have g2 := atO_spec (addE p e) t (addE_seq hew hsq)
      have g3 := takePo_spec (addE p e) e (addE_seq hew hsq) hsq
      simp only [hok, k1, true_and, if_true] at g1 g2
      have ag := again_not hok w
      have ha : askT (addE p e) t = askT p t := rfl
      rw [ha] at g2
      have e1 : t < e.time → thenF (addE p e) t = thenF p t := thenF_early
      have e2 : e.time ≤ t → seatF (thenF (addE p e) t).seats e.router = some (seatOf e) := later_seat hok w
      have e3 : ¬ (takeP (addE p e) e).2 = 0 := by
        rcases takeP_cases e k1 with ⟨v, hv⟩ | ⟨v, hv⟩ | ⟨v, _, hv⟩
        · exact absurd v ag
        · rw [hv]; decide
        · rw [hv]; exact v
      have hTl : (thenF (addE p e) t).seats.length ≤ 64 := netOk_seats (thenF_all k1 t).2.2
      rw [ht] at h1
      simp only at h1
      generalize takeP (addE p e) e = R at *
      generalize thenF (addE p e) t = T1 at *
      generalize thenF p t = T2 at *
      generalize askT p t = W at *
      generalize addE p e = Q at *
      have r1 : (R.2 == 0) = false := by simpa using e3
      have r2 : (R.2 != 0) = true := by simpa using e3
      by_cases hlt : t < e.time
      · rw [e1 hlt] at g2
        generalize (if W = 0 then T2 else net0) = A at *
        have q1 : decide (t < e.time) = true := by simpa using hlt
        first | refine CallK.same (h1) rfl rfl ?_ | refine CallQ.same (h1) rfl rfl ?_ | refine CallQG.same _ (h1) rfl ?_ | refine CallG.same _ (h1) rfl ?_ | refine CallK.pv (h1) rfl rfl ?_
        simp -implicitDefEqProofs
        first | refine CallK.same (g1) rfl rfl ?_ | refine CallQ.same (g1) rfl rfl ?_ | refine CallQG.same _ (g1) rfl ?_ | refine CallG.same _ (g1) rfl ?_ | refine CallK.pv (g1) rfl rfl ?_
        simp -implicitDefEqProofs
        first | refine CallK.same (g2) rfl rfl ?_ | refine CallQ.same (g2) rfl rfl ?_ | refine CallQG.same _ (g2) rfl ?_ | refine CallG.same _ (g2) rfl ?_ | refine CallK.pv (g2) rfl rfl ?_
        simp -implicitDefEqProofs
        first | refine CallK.same (g3) rfl rfl ?_ | refine CallQ.same (g3) rfl rfl ?_ | refine CallQG.same _ (g3) rfl ?_ | refine CallG.same _ (g3) rfl ?_ | refine CallK.pv (g3) rfl rfl ?_
        simp -implicitDefEqProofs [r1, r2, e3, hlt, q1]
        first | refine CallG.off (.bool true) ?_ | (refine CallG.on ?_; first | refine CallK.same (same18_spec A) rfl rfl ?_ | refine CallQ.same (same18_spec A) rfl rfl ?_ | refine CallQG.same _ (same18_spec A) rfl ?_ | refine CallG.same _ (same18_spec A) rfl ?_ | refine CallK.pv (same18_spec A) rfl rfl ?_)
        simp -implicitDefEqProofs [r1, r2, e3, hlt, q1]
      · have q1 : decide (t < e.time) = false := by simpa using hlt
        have hs := e2 (by omega)
        by_cases hw : W = 0
        · subst hw
          simp only [if_true] at g1 g2
          first | refine CallK.same (h1) rfl rfl ?_ | refine CallQ.same (h1) rfl rfl ?_ | refine CallQG.same _ (h1) rfl ?_ | refine CallG.same _ (h1) rfl ?_ | refine CallK.pv (h1) rfl rfl ?_
          simp -implicitDefEqProofs
          first | refine CallK.same (g1) rfl rfl ?_ | refine CallQ.same (g1) rfl rfl ?_ | refine CallQG.same _ (g1) rfl ?_ | refine CallG.same _ (g1) rfl ?_ | refine CallK.pv (g1) rfl rfl ?_
          simp -implicitDefEqProofs
          first | refine CallK.same (g2) rfl rfl ?_ | refine CallQ.same (g2) rfl rfl ?_ | refine CallQG.same _ (g2) rfl ?_ | refine CallG.same _ (g2) rfl ?_ | refine CallK.pv (g2) rfl rfl ?_
          simp -implicitDefEqProofs
          first | refine CallK.same (g3) rfl rfl ?_ | refine CallQ.same (g3) rfl rfl ?_ | refine CallQG.same _ (g3) rfl ?_ | refine CallG.same _ (g3) rfl ?_ | refine CallK.pv (g3) rfl rfl ?_
          simp -implicitDefEqProofs [r1, r2, e3, hlt, q1]
          first | refine CallG.off (.bool true) ?_ | (refine CallG.on ?_; first | refine CallK.same (same18_spec T1) rfl rfl ?_ | refine CallQ.same (same18_spec T1) rfl rfl ?_ | refine CallQG.same _ (same18_spec T1) rfl ?_ | refine CallG.same _ (same18_spec T1) rfl ?_ | refine CallK.pv (same18_spec T1) rfl rfl ?_)
          simp -implicitDefEqProofs [r1, r2, e3, hlt, q1]
          refine LoopK.os (fun k : Nat => [(4, .ptr 0 0), (73, .im (.sl 4 (T1.seats.map Seat.iv))), (74, .int .i64 T1.seats.length), (75, .int .i64 k)])
            (fun _ => [.box 39 (e.iv.map .im)])
            (fun k => k ≤ T1.seats.length ∧ seatF (T1.seats.drop k) e.router = some (seatOf e)) (fun k => T1.seats.length - k) 0 [1] ⟨Nat.zero_le _, by simpa using hs⟩ (by simp) ?_
          rintro k ⟨hk, hR⟩
          by_cases hlk : k < T1.seats.length
          · have e1 : IntKind.i64.wrap (k + 1) = (k + 1 : Nat) := wrap64 (by omega) (by omega)
            obtain ⟨E, hE⟩ : ∃ E, T1.seats[k] = E := ⟨_, rfl⟩
            rw [List.drop_eq_getElem_cons hlk, seatF, hE] at hR
            simp -implicitDefEqProofs [hlk, hE]
            refine ⟨fun h => ?_, fun h => ?_⟩
            · rw [if_pos h] at hR
              cases hR
              exact ⟨rfl, rfl⟩
            · rw [if_neg h] at hR
              refine Again.os (k + 1) [0] ⟨hlk, hR⟩ (by omega) ?_
              simp -implicitDefEqProofs [e1]
          · have hkk : k = T1.seats.length := by omega
            subst hkk
            rw [List.drop_length, seatF] at hR
            cases hR
        · have q2 : (W != 0) = true := by simpa using hw
          generalize (if W = 0 then T1 else net0) = A at *
          generalize (if W = 0 then T2 else net0) = B at *
          first | refine CallK.same (h1) rfl rfl ?_ | refine CallQ.same (h1) rfl rfl ?_ | refine CallQG.same _ (h1) rfl ?_ | refine CallG.same _ (h1) rfl ?_ | refine CallK.pv (h1) rfl rfl ?_
          simp -implicitDefEqProofs
          first | refine CallK.same (g1) rfl rfl ?_ | refine CallQ.same (g1) rfl rfl ?_ | refine CallQG.same _ (g1) rfl ?_ | refine CallG.same _ (g1) rfl ?_ | refine CallK.pv (g1) rfl rfl ?_
          simp -implicitDefEqProofs
          first | refine CallK.same (g2) rfl rfl ?_ | refine CallQ.same (g2) rfl rfl ?_ | refine CallQG.same _ (g2) rfl ?_ | refine CallG.same _ (g2) rfl ?_ | refine CallK.pv (g2) rfl rfl ?_
          simp -implicitDefEqProofs
          first | refine CallK.same (g3) rfl rfl ?_ | refine CallQ.same (g3) rfl rfl ?_ | refine CallQG.same _ (g3) rfl ?_ | refine CallG.same _ (g3) rfl ?_ | refine CallK.pv (g3) rfl rfl ?_
          simp -implicitDefEqProofs [r1, r2, e3, hlt, q1]
          first | refine CallG.off (.bool true) ?_ | (refine CallG.on ?_; first | refine CallK.same (same18_spec A) rfl rfl ?_ | refine CallQ.same (same18_spec A) rfl rfl ?_ | refine CallQG.same _ (same18_spec A) rfl ?_ | refine CallG.same _ (same18_spec A) rfl ?_ | refine CallK.pv (same18_spec A) rfl rfl ?_)
          simp -implicitDefEqProofs [r1, r2, e3, hlt, q1, hw, q2]
    · rw [ht] at h1
      simp only at h1
      first | refine CallK.same (h1) rfl rfl ?_ | refine CallQ.same (h1) rfl rfl ?_ | refine CallQG.same _ (h1) rfl ?_ | refine CallG.same _ (h1) rfl ?_ | refine CallK.pv (h1) rfl rfl ?_
      simp -implicitDefEqProofs
    · rw [ht] at h1
      simp only at h1
      first | refine CallK.same (h1) rfl rfl ?_ | refine CallQ.same (h1) rfl rfl ?_ | refine CallQG.same _ (h1) rfl ?_ | refine CallG.same _ (h1) rfl ?_ | refine CallK.pv (h1) rfl rfl ?_
      simp -implicitDefEqProofs [w0]
end Go.Am


set_option linter.unusedVariables false
set_option linter.unusedSimpArgs false
set_option pp.deepTerms false
set_option pp.deepTerms.threshold 40
namespace Go.Am
open Go.Proofs

theorem takeP_ok {p : Past} {e : Ev} (h : (takeP p e).2 = 0) : okP p = true ∧ takeW p e = 0 ∧ takeP p e = (addE p e, 0) := by
  unfold takeP at h ⊢
  split at h
  · cases h
  rename_i h1
  split at h
  · rename_i h2
    refine ⟨?_, h2, ?_⟩
    · cases hok : okP p with
      | true => rfl
      | false => exact absurd (.inl hok) h1
    · rw [if_neg h1, if_pos h2]
  · rename_i h2
    exact absurd h h2
theorem takeP_seq {p : Past} {e : Ev} (hew : ∀ e ∈ p.evs, 0 ≤ e.seq) (hsq : 0 ≤ e.seq) : ∀ x ∈ (takeP p e).1.evs, 0 ≤ x.seq := by
  unfold takeP
  split
  · intro x hx; cases hx
  split
  · exact addE_seq hew hsq
  · exact hew
theorem take_one {p : Past} {e f : Ev} (hne : ¬ e.router = f.router) (h1 : (takeP p e).2 = 0) (h2 : (takeP (takeP p e).1 f).2 = 0) (h3 : ¬ (takeP p f).2 = 8) (h4 : ¬ (takeP (takeP p f).1 e).2 = 8) :
    (takeP p f).2 = 0 ∧ (takeP (takeP p f).1 e).2 = 0 ∧ ∀ t, okP (takeP (takeP p e).1 f).1 = true ∧ okP (takeP (takeP p f).1 e).1 = true ∧ askT (takeP (takeP p e).1 f).1 t = askT (takeP (takeP p f).1 e).1 t ∧ thenF (takeP (takeP p e).1 f).1 t = thenF (takeP (takeP p f).1 e).1 t := by
  obtain ⟨o, w1, e1⟩ := takeP_ok h1
  rw [e1] at h2 ⊢
  obtain ⟨o1, w2, e2⟩ := takeP_ok h2
  simp only at o1 w2 e2
  simp only [e2]
  have k3 : ¬ takeW p f = 8 := by
    intro h8
    apply h3
    rcases takeP_cases f o with ⟨v, hv⟩ | ⟨v, hv⟩ | ⟨_, _, hv⟩
    · rw [v] at h8; cases h8
    · rw [v] at h8; cases h8
    · rw [hv]; exact h8
  have k4 : takeW p f = 0 → ¬ takeW (addE p f) e = 8 := by
    intro h0 h8
    obtain ⟨o3, _, _⟩ := addP_ok o h0
    apply h4
    rcases takeP_cases f o with ⟨v, hv⟩ | ⟨v, hv⟩ | ⟨v, _, hv⟩
    · rw [hv]
      rcases takeP_cases e o3 with ⟨v, hv⟩ | ⟨v, hv⟩ | ⟨_, _, hv⟩
      · rw [v] at h8; cases h8
      · rw [v] at h8; cases h8
      · simp only; rw [hv]; exact h8
    · rw [v] at h0; cases h0
    · exact absurd h0 v
  obtain ⟨x1, x2, x3⟩ := take_swap o hne w1 w2 k3 k4
  obtain ⟨o3, _, _⟩ := addP_ok o x1
  obtain ⟨o2, _, _⟩ := addP_ok o1 w2
  obtain ⟨o4, _, _⟩ := addP_ok o3 x2
  have e3 : takeP p f = (addE p f, 0) := by unfold takeP; rw [if_neg (by simp [o, x1]), if_pos x1]
  have e4 : takeP (addE p f) e = (addE (addE p f) e, 0) := by unfold takeP; rw [if_neg (by simp [o3, x2]), if_pos x2]
  rw [e3]
  simp only [e4]
  exact ⟨trivial, trivial, fun t => ⟨o2, o4, rfl, x3 t⟩⟩
set_option maxRecDepth 8000 in
set_option maxHeartbeats 4000000 in
theorem pastOne_spec (p : Past) (e f : Ev) (t : Int) (hew : ∀ e ∈ p.evs, 0 ≤ e.seq) (hsq : 0 ≤ e.seq) (hsf : 0 ≤ f.seq) : FSpec Tryz.prog 9 [p.av, e.av, f.av, .int .i64 t] [] (.bool true) [] := by
  have g1 := takePo_spec p e hew hsq
  have g2 := takePo_spec (takeP p e).1 f (takeP_seq hew hsq) hsf
  have g3 := takePo_spec p f hew hsf
  have g4 := takePo_spec (takeP p f).1 e (takeP_seq hew hsf) hsq
  have g5 := atO_spec (takeP (takeP p e).1 f).1 t (takeP_seq (takeP_seq hew hsq) hsf)
  have g6 := atO_spec (takeP (takeP p f).1 e).1 t (takeP_seq (takeP_seq hew hsf) hsq)
  have hn := same18_spec
  by_cases hne : e.router = f.router
  · refine FSpec.of_flat (q := []) Tryz.func9 (by kernel_rfl) rfl Tryz.ntmps9 Tryz.results9 hP (by kernel_rfl) (by simp) (by first | rfl | simp) ?_
    simp -implicitDefEqProofs
    first | refine CallK.same (lives21_spec) rfl rfl ?_ | refine CallQ.same (lives21_spec) rfl rfl ?_ | refine CallQG.same _ (lives21_spec) rfl ?_ | refine CallG.same _ (lives21_spec) rfl ?_ | refine CallK.pv (lives21_spec) rfl rfl ?_
    simp -implicitDefEqProofs [hne]
  have hsw := take_one (p := p) (e := e) (f := f) hne
  generalize takeP p e = A1 at *
  generalize takeP A1.1 f = A2 at *
  generalize takeP p f = B1 at *
  generalize takeP B1.1 e = B2 at *
  refine FSpec.of_flat (q := []) Tryz.func9 (by kernel_rfl) rfl Tryz.ntmps9 Tryz.results9 hP (by kernel_rfl) (by simp) (by first | rfl | simp) ?_
  simp -implicitDefEqProofs
  first | refine CallK.same (lives21_spec) rfl rfl ?_ | refine CallQ.same (lives21_spec) rfl rfl ?_ | refine CallQG.same _ (lives21_spec) rfl ?_ | refine CallG.same _ (lives21_spec) rfl ?_ | refine CallK.pv (lives21_spec) rfl rfl ?_
  simp -implicitDefEqProofs [hne]
  first | refine CallK.same (g1) rfl rfl ?_ | refine CallQ.same (g1) rfl rfl ?_ | refine CallQG.same _ (g1) rfl ?_ | refine CallG.same _ (g1) rfl ?_ | refine CallK.pv (g1) rfl rfl ?_
  simp -implicitDefEqProofs
  first | refine CallK.same (g2) rfl rfl ?_ | refine CallQ.same (g2) rfl rfl ?_ | refine CallQG.same _ (g2) rfl ?_ | refine CallG.same _ (g2) rfl ?_ | refine CallK.pv (g2) rfl rfl ?_
  simp -implicitDefEqProofs
  first | refine CallK.same (g3) rfl rfl ?_ | refine CallQ.same (g3) rfl rfl ?_ | refine CallQG.same _ (g3) rfl ?_ | refine CallG.same _ (g3) rfl ?_ | refine CallK.pv (g3) rfl rfl ?_
  simp -implicitDefEqProofs
  first | refine CallK.same (g4) rfl rfl ?_ | refine CallQ.same (g4) rfl rfl ?_ | refine CallQG.same _ (g4) rfl ?_ | refine CallG.same _ (g4) rfl ?_ | refine CallK.pv (g4) rfl rfl ?_
  simp -implicitDefEqProofs
  intro c1 c2 c3 c4
  obtain ⟨d1, d2, d3⟩ := hsw c1 c2 c3 c4
  obtain ⟨o1, o2, ea, et⟩ := d3 t
  simp only [o1, o2, ea, et, true_and, if_true] at g5 g6
  generalize (if askT B2.1 t = 0 then thenF B2.1 t else net0) = N at *
  generalize askT B2.1 t = W at *
  first | refine CallK.same (g5) rfl rfl ?_ | refine CallQ.same (g5) rfl rfl ?_ | refine CallQG.same _ (g5) rfl ?_ | refine CallG.same _ (g5) rfl ?_ | refine CallK.pv (g5) rfl rfl ?_
  simp -implicitDefEqProofs
  first | refine CallK.same (g6) rfl rfl ?_ | refine CallQ.same (g6) rfl rfl ?_ | refine CallQG.same _ (g6) rfl ?_ | refine CallG.same _ (g6) rfl ?_ | refine CallK.pv (g6) rfl rfl ?_
  simp -implicitDefEqProofs [d1, d2]
  first | refine CallG.off (.bool true) ?_ | (refine CallG.on ?_; first | refine CallK.same (hn N) rfl rfl ?_ | refine CallQ.same (hn N) rfl rfl ?_ | refine CallQG.same _ (hn N) rfl ?_ | refine CallG.same _ (hn N) rfl ?_ | refine CallK.pv (hn N) rfl rfl ?_)
  simp -implicitDefEqProofs [d1, d2]
end Go.Am

