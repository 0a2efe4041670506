import Derived.Test.YtnoggcmfnmmjcaaGreatU1
set_option linter.unusedVariables false
set_option linter.unusedSimpArgs false
set_option pp.deepTerms false
set_option pp.deepTerms.threshold 40
namespace Go.Am
open Go.Proofs

/-! ### the hop, and the closure of the law JudgeNext -/
theorem hopN_spec (n : Net) (x : Int) (six : Bool) (a : Addr4) (hw : n.wf) (ha : a.wf) :
    FSpec Tryz.prog 25 [n.av, .int .i64 x, .bool six, a.av] [] (.tup [(if rightN n six a then hopN n six a x else ⟨0, 0⟩).av, .int .i64 (if rightN n six a then 0 else 2)]) [] := by
  refine FSpec.of_z (q := []) Tryz.func25 (by kernel_rfl) rfl Tryz.ntmps25 Tryz.results25 hP (by kernel_rfl) (by simp) (by first | rfl | simp) ?_
  have hc := checkN_spec n
  simp
  first | refine CallK.same (hc) rfl rfl ?_ | refine CallQ.same (hc) rfl rfl ?_ | refine CallQG.same _ (hc) rfl ?_ | refine CallG.same _ (hc) rfl ?_ | refine CallK.pv (hc) rfl rfl ?_
  simp
  cases h1 : netOk n with
  | false =>
    simp
    first | refine CallK.same (rightA_spec six a) rfl rfl ?_ | refine CallQ.same (rightA_spec six a) rfl rfl ?_ | refine CallQG.same _ (rightA_spec six a) rfl ?_ | refine CallG.same _ (rightA_spec six a) rfl ?_ | refine CallK.pv (rightA_spec six a) rfl rfl ?_
    simp
    refine EndZ.ret [] (.tup [.agg [.int .u8 0, .int .i64 0], .int .i64 2]) (by simp) ?_
    simp [rightN, h1]
  | true =>
    simp
    first | refine CallK.same (rightA_spec six a) rfl rfl ?_ | refine CallQ.same (rightA_spec six a) rfl rfl ?_ | refine CallQG.same _ (rightA_spec six a) rfl ?_ | refine CallG.same _ (rightA_spec six a) rfl ?_ | refine CallK.pv (rightA_spec six a) rfl rfl ?_
    simp
    cases h2 : rightA six a with
    | false =>
      simp
      refine EndZ.ret [] (.tup [.agg [.int .u8 0, .int .i64 0], .int .i64 2]) (by simp) ?_
      simp [rightN, h1, h2]
    | true =>
      simp
      first | refine CallK.same (doesN_spec n x six a h1 hw ha h2) rfl rfl ?_ | refine CallQ.same (doesN_spec n x six a h1 hw ha h2) rfl rfl ?_ | refine CallQG.same _ (doesN_spec n x six a h1 hw ha h2) rfl ?_ | refine CallG.same _ (doesN_spec n x six a h1 hw ha h2) rfl ?_ | refine CallK.pv (doesN_spec n x six a h1 hw ha h2) rfl rfl ?_
      simp
      refine EndZ.ret [] (.tup [.agg [.int .u8 (doesF n x six a).kind, .int .i64 (doesF n x six a).peer], .int .i64 0]) (by simp) ?_
      simp [rightN, h1, h2, hopN]
theorem ofN_spec (l : List Fate) (r : Int) (hl : l.length ≤ 1000) : FSpec Tryz.prog 24 [.int .i64 r, .ptr 0 0] [.box 29 [.im (.sl 3 (l.map Fate.iv))]] (.tup [(firstV l r).av, .bool (firstF l r).isSome]) [.box 29 [.im (.sl 3 (l.map Fate.iv))]] := by
  refine FSpec.of_o (q := []) Tryz.func24 (by kernel_rfl) rfl Tryz.ntmps24 Tryz.results24 hP (by kernel_rfl) (by simp) (by first | rfl | simp) ?_
  simp
  refine LoopK.os (fun k : Nat => [(0, .int .i64 r), (1, .ptr 0 0), (3, .ptr 1 0), (7, .im (.sl 3 (l.map Fate.iv))), (8, .int .i64 l.length), (9, .int .i64 k)])
    (fun _ => [.box 29 [.im (.sl 3 (l.map Fate.iv))], .box 46 [.int .u8 0, .int .i64 0]])
    (fun k => k ≤ l.length ∧ ∀ f ∈ l.take k, f.router ≠ r) (fun k => l.length - k) 0 [0, 1] ⟨Nat.zero_le _, by simp⟩ (by simp) ?_
  rintro k ⟨hk, hn⟩
  by_cases hlt : k < l.length
  · have e1 : IntKind.i64.wrap (k + 1) = (k + 1 : Nat) := wrap64 (by omega) (by omega)
    have hg := List.getElem?_eq_getElem hlt
    obtain ⟨s1, s2⟩ := firstF_step l r k hlt hn
    simp [hlt, hg, e1]
    refine ⟨fun h => ?_, fun h => ?_⟩
    · have hf := s1 h
      refine EndO.ret [] [0] (.tup [l[k].v.av, .bool true]) (by simp) ?_
      simp [firstV, hf]
    · refine Again.os (k + 1) [0, 1] ⟨hlt, s2 h⟩ (by omega) ?_
      simp
  · have hkk : k = l.length := by omega
    subst hkk
    rw [List.take_length] at hn
    have hf := firstF_none.2 hn
    simp
    refine EndO.ret [] [0] (.tup [.agg [.int .u8 0, .int .i64 0], .bool false]) (by simp) ?_
    simp [firstV, hf]

/-! ### what a router's fate has to do with the next one's -/
theorem Goes.less {H : Int → Hop} {W : List Int} {r : Int} {res : List Int × Verd} (h : Goes H W r res) : ∀ {A B : List Int}, W = A ++ B → (∀ z ∈ A, res.2 ≠ ⟨4, z⟩) → ∃ w, Goes H B r (w, res.2) := by
  induction h with
  | ends h => intro A B _ _; exact ⟨_, .ends h⟩
  | again h hp =>
    intro A B e hA
    subst e
    rcases List.mem_append.1 hp with hp | hp
    · exact absurd rfl (hA _ hp)
    · exact ⟨_, .again h hp⟩
  | step h hp _ ih =>
    intro A B e hA
    subst e
    obtain ⟨w, hw⟩ := ih (A := A) (B := B ++ [(H _).peer]) (by rw [List.append_assoc]) hA
    exact ⟨w, .step h (fun hm => hp (List.mem_append_right _ hm)) hw⟩
theorem Goes.kind {H : Int → Hop} {W : List Int} {r : Int} {res : List Int × Verd} (h : Goes H W r res) : res.2.kind = 1 ∨ res.2.kind = 2 ∨ res.2.kind = 3 ∨ res.2.kind = 4 := by
  induction h with
  | ends h =>
    simp only [endsF]
    repeat' split
    all_goals simp
  | again h hp => simp
  | step _ _ _ ih => exact ih
theorem wayN_kind (n : Net) (six : Bool) (a : Addr4) (r : Int) : (wayN n six a r).2.kind = 1 ∨ (wayN n six a r).2.kind = 2 ∨ (wayN n six a r).2.kind = 3 ∨ (wayN n six a r).2.kind = 4 := (wayN_goes n six a r).kind
theorem wayN_stays (n : Net) (six : Bool) (a : Addr4) (r : Int) (h : ¬ (hopN n six a r).kind = 1) : (wayN n six a r).2.at_ = r := by
  have hm : ¬ moves (hopN n six a) r := fun hm => by
    have := hopN_kind n six a r
    obtain ⟨h0, h2, h3⟩ := hm
    omega
  have := (wayN_goes n six a r).det (.ends hm)
  rw [this]
  rfl
theorem wayN_next (n : Net) (six : Bool) (a : Addr4) (r : Int) (h : (hopN n six a r).kind = 1) (hv : (wayN n six a r).2 ≠ ⟨4, r⟩) : (wayN n six a (hopN n six a r).peer).2 = (wayN n six a r).2 := by
  have hg := wayN_goes n six a r
  have hm : moves (hopN n six a) r := ⟨by omega, by omega, by omega⟩
  generalize wayN n six a r = res at *
  generalize hW : ([r] : List Int) = W at hg
  cases hg with
  | ends h' => exact absurd hm h'
  | again _ hp =>
    subst hW
    rw [List.mem_singleton] at hp
    exact absurd (by rw [hp]) hv
  | step _ hp hs =>
    subst hW
    obtain ⟨w, hw⟩ := hs.less (A := [r]) (B := [(hopN n six a r).peer]) rfl (fun z hz => by rw [List.mem_singleton] at hz; subst hz; exact hv)
    have := (wayN_goes n six a (hopN n six a r).peer).det hw
    rw [this]
theorem wayN_out (n : Net) (six : Bool) (a : Addr4) (r : Int) (h : r ∉ idsN n) : (wayN n six a r).2 = ⟨3, r⟩ := by
  have h0 := hopN_out (six := six) (a := a) h
  have := (wayN_goes n six a r).det (.ends (fun hm => hm.1 (by rw [h0])))
  rw [this]
  simp [endsF, h0]
theorem firstF_fates (n : Net) (six : Bool) (a : Addr4) (r : Int) : ∀ l : List Router, firstF (l.map (fateN n six a)) r = if r ∈ l.map Router.id then some (wayN n six a r).2 else none
  | [] => by simp [firstF]
  | x :: l => by
    rw [List.map_cons, firstF, firstF_fates n six a r l]
    by_cases h : x.id = r
    · subst h; simp [fateN]
    · have : r ∈ (x :: l).map Router.id ↔ r ∈ l.map Router.id := by simp [Ne.symm h]
      have hr : (fateN n six a x).router = x.id := rfl
      simp only [this, hr]
      rw [if_neg h]
theorem countF_sum : ∀ (l : List Fate) (p q s t : Int), (∀ f ∈ l, f.v.kind = 1 ∨ f.v.kind = 2 ∨ f.v.kind = 3 ∨ f.v.kind = 4) → countF 1 l p + countF 2 l q + countF 3 l s + countF 4 l t = p + q + s + t + l.length
  | [], p, q, s, t, _ => by simp [countF]
  | f :: l, p, q, s, t, h => by
    have ih := fun p q s t => countF_sum l p q s t fun g hg => h g (List.mem_cons_of_mem _ hg)
    simp only [countF, ih, List.length_cons]
    have := h f List.mem_cons_self
    split <;> split <;> split <;> split <;> omega
end Go.Am

set_option linter.unusedVariables false
set_option linter.unusedSimpArgs false
set_option pp.deepTerms false
set_option pp.deepTerms.threshold 40
namespace Go.Am
open Go.Proofs

/-! ### the law JudgeNext -/
theorem verd_eta (v : Verd) (k a : Int) : v = ⟨k, a⟩ ↔ v.kind = k ∧ v.at_ = a := by cases v; simp
set_option maxRecDepth 8000 in
set_option maxHeartbeats 1000000 in
theorem judgeNext_spec (n : Net) (six : Bool) (a : Addr4) (hw : n.wf) (ha : a.wf) : FSpec Tryz.prog 5 [n.av, .bool six, a.av] [] (.bool true) [] := by
  have hF := fatesJ_spec n six a hw ha
  refine FSpec.of_flat (q := [(18, .n 10)]) Tryz.func5 (by kernel_rfl) rfl Tryz.ntmps5 Tryz.results5 hP (by kernel_rfl) (by simp) (by first | rfl | simp) ?_
  simp -implicitDefEqProofs
  first | refine CallK.same (lives_spec) rfl rfl ?_ | refine CallQ.same (lives_spec) rfl rfl ?_ | refine CallQG.same _ (lives_spec) rfl ?_ | refine CallG.same _ (lives_spec) rfl ?_ | refine CallK.pv (lives_spec) rfl rfl ?_
  simp -implicitDefEqProofs
  first | refine CallK.same (hF) rfl rfl ?_ | refine CallQ.same (hF) rfl rfl ?_ | refine CallQG.same _ (hF) rfl ?_ | refine CallG.same _ (hF) rfl ?_ | refine CallK.pv (hF) rfl rfl ?_
  simp -implicitDefEqProofs
  cases e : rightN n six a with
  | false => simp -implicitDefEqProofs
  | true =>
    have h1 : netOk n = true := by unfold rightN at e; simp at e; exact e.1
    have hlen := netOk_len h1
    have hFe : fatesN n six a = n.routers.map (fateN n six a) := by simp [fatesN, e]
    rw [hFe]
    have hll : (n.routers.map (fateN n six a)).length = n.routers.length := by simp
    generalize hG : n.routers.map (fateN n six a) = F at *
    simp -implicitDefEqProofs
    refine LoopK.os (fun k : Nat => [(1, .bool six), (3, .ptr 0 0), (5, .ptr 1 0), (7, .ptr 2 0), (9, .fn 24 [.ptr 2 0]), (29, .im (.sl 3 (F.map Fate.iv))), (30, .int .i64 F.length), (31, .int .i64 k)])
      (fun _ => [.box 25 [.im (.sl 4 (n.seats.map Seat.iv)), .im (.sl 4 (n.routers.map Router.iv))], .box 28 [.int .u64 a.hi, .int .u64 a.lo], .box 29 [.im (.sl 3 (F.map Fate.iv))]])
      (fun k => k ≤ F.length) (fun k => F.length - k) 0 [0, 1, 2] (Nat.zero_le _) (by simp) ?_
    intro k hk
    by_cases hlt : k < F.length
    · have e1 : IntKind.i64.wrap (k + 1) = (k + 1 : Nat) := wrap64 (by omega) (by omega)
      obtain ⟨f, hf⟩ : ∃ f, F[k] = f := ⟨_, rfl⟩
      have hfv : f.v = (wayN n six a f.router).2 := by
        have : f ∈ F := by rw [← hf]; exact List.getElem_mem _
        rw [← hG] at this
        obtain ⟨y, _, rfl⟩ := List.mem_map.1 this
        rfl
      have hh := hopN_spec n f.router six a hw ha
      rw [e] at hh
      simp only [if_true] at hh
      have ho := ofN_spec F (hopN n six a f.router).peer (by omega)
      have k1 : ¬ (hopN n six a f.router).kind = 1 → f.v.at_ = f.router := fun h => by rw [hfv]; exact wayN_stays n six a _ h
      have k2 : (hopN n six a f.router).kind = 1 → f.v ≠ ⟨4, f.router⟩ → ((firstF F (hopN n six a f.router).peer).isSome = true → firstV F (hopN n six a f.router).peer = f.v) ∧ ((firstF F (hopN n six a f.router).peer).isSome = false → f.v = ⟨3, (hopN n six a f.router).peer⟩) := fun hk1 hv => by
        have hnx := wayN_next n six a f.router hk1 (by rw [← hfv]; exact hv)
        unfold firstV
        rw [← hG, firstF_fates]
        by_cases hm : (hopN n six a f.router).peer ∈ n.routers.map Router.id
        · simp only [hm, if_true]
          exact ⟨fun _ => (by rw [hfv]; exact hnx), fun h => (by cases h)⟩
        · simp only [hm, if_false]
          exact ⟨fun h => (by cases h), fun _ => (by rw [hfv, ← hnx]; exact wayN_out n six a _ hm)⟩
      generalize hopN n six a f.router = P at *
      generalize firstV F P.peer = u at *
      generalize (firstF F P.peer).isSome = s at *
      simp -implicitDefEqProofs [hlt, hf, e1]
      first | refine CallK.same (hh) rfl rfl ?_ | refine CallQ.same (hh) rfl rfl ?_ | refine CallQG.same _ (hh) rfl ?_ | refine CallG.same _ (hh) rfl ?_ | refine CallK.pv (hh) rfl rfl ?_
      simp -implicitDefEqProofs
      refine CallO.mk [] [2] ho (by simp) rfl (by simp) (by simp) (by simp) ?_
      simp -implicitDefEqProofs
      refine ⟨k1, fun _ => ⟨fun hk1 => ?_, fun hs => ?_, fun hk1 hne => ?_⟩⟩
      · simp only [hk1]
        cases f.v.kind == 4 <;> rfl
      · refine Again.os (k + 1) [0, 1, 2] hlt (by omega) ?_
        simp -implicitDefEqProofs [e1]
      · have hne' : f.v ≠ ⟨4, f.router⟩ := fun e => by
          rw [verd_eta] at e
          exact hne e.1 e.2
        obtain ⟨k3, k4⟩ := k2 hk1 hne'
        have e3 : s = true → u.kind = f.v.kind ∧ u.at_ = f.v.at_ := fun h => by rw [k3 h]; exact ⟨rfl, rfl⟩
        have e4 : s = false → f.v.kind = 3 ∧ f.v.at_ = P.peer := fun h => (verd_eta _ _ _).1 (k4 h)
        refine ⟨fun h => ?_, ⟨e3, e4⟩, fun _ _ => ?_⟩
        · cases s with
          | false => rfl
          | true => rw [(e3 rfl).1, (e3 rfl).2]; simp [impB]
        · refine Again.os (k + 1) [0, 1, 2] hlt (by omega) ?_
          simp -implicitDefEqProofs [e1]
    · have hkk : k = F.length := by omega
      subst hkk
      have hkind : ∀ f ∈ F, f.v.kind = 1 ∨ f.v.kind = 2 ∨ f.v.kind = 3 ∨ f.v.kind = 4 := fun f hf => by
        rw [← hG] at hf
        obtain ⟨y, _, rfl⟩ := List.mem_map.1 hf
        exact wayN_kind n six a y.id
      have hsum := countF_sum F 0 0 0 0 hkind
      have b1 := countF_le 1 F 0
      have b2 := countF_le 2 F 0
      have b3 := countF_le 3 F 0
      have b4 := countF_le 4 F 0
      have c1 := countJ_spec F 1
      have c2 := countJ_spec F 2
      have c3 := countJ_spec F 3
      have c4 := countJ_spec F 4
      have hd := differJ_spec F F (by omega) (by omega) [] (by simp) (by simp)
      generalize countF 1 F 0 = x1 at *
      generalize countF 2 F 0 = x2 at *
      generalize countF 3 F 0 = x3 at *
      generalize countF 4 F 0 = x4 at *
      have w1 : IntKind.i64.wrap (x1 + x2) = x1 + x2 := wrap64 (by omega) (by omega)
      have w2 : IntKind.i64.wrap (x1 + x2 + x3) = x1 + x2 + x3 := wrap64 (by omega) (by omega)
      have w3 : IntKind.i64.wrap (x1 + x2 + x3 + x4) = F.length := by rw [wrap64 (by omega) (by omega)]; omega
      simp -implicitDefEqProofs
      first | refine CallK.same (c1) rfl rfl ?_ | refine CallQ.same (c1) rfl rfl ?_ | refine CallQG.same _ (c1) rfl ?_ | refine CallG.same _ (c1) rfl ?_ | refine CallK.pv (c1) rfl rfl ?_
      simp -implicitDefEqProofs
      first | refine CallK.same (c2) rfl rfl ?_ | refine CallQ.same (c2) rfl rfl ?_ | refine CallQG.same _ (c2) rfl ?_ | refine CallG.same _ (c2) rfl ?_ | refine CallK.pv (c2) rfl rfl ?_
      simp -implicitDefEqProofs
      first | refine CallK.same (c3) rfl rfl ?_ | refine CallQ.same (c3) rfl rfl ?_ | refine CallQG.same _ (c3) rfl ?_ | refine CallG.same _ (c3) rfl ?_ | refine CallK.pv (c3) rfl rfl ?_
      simp -implicitDefEqProofs
      first | refine CallK.same (c4) rfl rfl ?_ | refine CallQ.same (c4) rfl rfl ?_ | refine CallQG.same _ (c4) rfl ?_ | refine CallG.same _ (c4) rfl ?_ | refine CallK.pv (c4) rfl rfl ?_
      simp -implicitDefEqProofs [w1, w2, w3]
      refine CallG.on (CallK.pv hd rfl rfl ?_)
      simp -implicitDefEqProofs [rowI]
end Go.Am
