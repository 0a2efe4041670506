import Derived.Test.YtnoggcmfnmmjcaaGreatDoorT7
set_option linter.unusedVariables false
set_option linter.unusedSimpArgs false
set_option pp.deepTerms false
set_option pp.deepTerms.threshold 40
namespace Go.Am
open Go.Proofs

/-! ### the law JudgeRound: the loops -/
/-- A loop, as the program tells it: the way goes round by it, its least router first. -/
theorem loopsL_cyc (n : Net) (six : Bool) (a : Addr4) {L : List Int} (hL : L ∈ loopsL n six a n.routers) : Cyc (hopN n six a) L ∧ (∀ x ∈ L, headI L ≤ x) ∧ ∀ x ∈ L, x ∈ idsN n := by
  obtain ⟨h1, h2⟩ := sitN_ok n six a
  have hm : L ∈ (sitN n six a).2 := by
    rw [h1.loops_iff h2 (hopN_moves n six a) (W := wayN n six a) (wayN_goes n six a)]
    obtain ⟨r, hr, g1, g2⟩ := (loopsL_mem n six a L n.routers).1 hL
    exact ⟨r.id, List.mem_map.2 ⟨r, hr, rfl⟩, g1, g2⟩
  obtain ⟨g1, g2, g3⟩ := h1.loops L hm
  cases L with
  | nil => exact g1.elim
  | cons x l =>
    refine ⟨g1, fun y hy => ?_, fun y hy => ?_⟩
    · have := (minL_mem (l := x :: l) (by simp)).2 y hy
      simp only [List.head?_cons, Option.some.injEq] at g2
      simp only [headI, List.head?_cons, Option.getD_some]
      omega
    · exact hopN_moves n six a y (Path.moves g1.2 y hy).1
/-- Each router of a loop goes on to the next one, and the last one to the first. -/
theorem Path.at_ {H : Int → Hop} : ∀ {l : List Int} {a b : Int}, Path H a l b → ∀ k (hk : k < (a :: l).length), _root_.Go.Am.moves H (a :: l)[k] ∧ (H (a :: l)[k]).peer = if h : k + 1 < (a :: l).length then (a :: l)[k + 1] else b
  | [], a, b, h, 0, _ => ⟨h.1, by simpa using h.2⟩
  | c :: l, a, b, h, 0, _ => ⟨h.1, by simpa using h.2.1⟩
  | c :: l, a, b, h, k + 1, hk => by
    have := Path.at_ h.2.2 k (by simpa using hk)
    refine ⟨by simpa using this.1, ?_⟩
    have h2 := this.2
    simp only [List.getElem_cons_succ] at h2 ⊢
    rw [h2]
    simp
  | [], a, b, h, k + 1, hk => by simp at hk
theorem Cyc.at_ {H : Int → Hop} {L : List Int} (h : Cyc H L) (k : Nat) (hk : k < L.length) : moves H L[k] ∧ (H L[k]).peer = L[(k + 1) % L.length]'(Nat.mod_lt _ (by omega)) := by
  cases L with
  | nil => exact h.elim
  | cons x l =>
    have := Path.at_ h.2 k hk
    refine ⟨this.1, this.2.trans ?_⟩
    split
    · rename_i h1
      have e : (k + 1) % (x :: l).length = k + 1 := Nat.mod_eq_of_lt h1
      simp only [e]
    · rename_i h1
      have e : (k + 1) % (x :: l).length = 0 := by rw [show k + 1 = (x :: l).length by omega, Nat.mod_self]
      simp only [e]; rfl
/-- A router on a loop comes to itself again. -/
theorem Cyc.self {n : Net} {six : Bool} {a : Addr4} {L : List Int} (h : Cyc (hopN n six a) L) {y : Int} (hy : y ∈ L) : (wayN n six a y).2 = ⟨4, y⟩ := by
  obtain ⟨p, q, rfl⟩ := List.append_of_mem hy
  cases p with
  | nil => rw [(wayN_goes n six a y).det (Cyc.goes h)]
  | cons z p => rw [(wayN_goes n six a y).det (Cyc.goes (Cyc.rot (c := y) h))]
/-- All routers that come to themselves again are those of the loops, each once. -/
theorem loops_flat (n : Net) (six : Bool) (a : Addr4) (hok : netOk n = true) : (loopsL n six a n.routers).flatten.Nodup ∧ ∀ y, y ∈ (loopsL n six a n.routers).flatten ↔ y ∈ idsN n ∧ (wayN n six a y).2 = ⟨4, y⟩ := by
  obtain ⟨h1, h2⟩ := sitN_ok n six a
  have hiff : ∀ L, L ∈ loopsL n six a n.routers ↔ L ∈ (sitN n six a).2 := fun L => by
    rw [h1.loops_iff h2 (hopN_moves n six a) (W := wayN n six a) (wayN_goes n six a), loopsL_mem]
    constructor
    · rintro ⟨y, hy, g1, g2⟩
      exact ⟨y.id, List.mem_map.2 ⟨y, hy, rfl⟩, g1, g2⟩
    · rintro ⟨r, hr, g1, g2⟩
      obtain ⟨y, hy, rfl⟩ := List.mem_map.1 hr
      exact ⟨y, hy, g1, g2⟩
  have hord := loopsL_order n six a (netOk_routers hok).1
  refine ⟨?_, fun y => ⟨fun hy => ?_, fun ⟨hy, hv⟩ => ?_⟩⟩
  · rw [List.Nodup, List.pairwise_flatten]
    refine ⟨fun L hL => ?_, ?_⟩
    · have hc := (loopsL_cyc n six a hL).1
      cases L with
      | nil => exact hc.elim
      | cons x l => exact hc.1
    · -- two loops with a router in common are one
      refine hord.imp_of_mem fun {L M} hL hM hlt => ?_
      intro y hy y' hy' eyy
      subst eyy
      have hLs := (hiff L).1 hL
      have hMs := (hiff M).1 hM
      have : L = M := by
        apply Classical.byContradiction
        intro hne
        obtain ⟨i, hi⟩ := List.mem_iff_getElem.1 hLs
        obtain ⟨j, hj⟩ := List.mem_iff_getElem.1 hMs
        obtain ⟨hi, ei⟩ := hi
        obtain ⟨hj, ej⟩ := hj
        have hd := List.pairwise_iff_getElem.1 h1.disj
        rcases Nat.lt_trichotomy i j with h | h | h
        · have := hd i j hi hj h
          rw [ei, ej] at this
          exact this y hy hy'
        · subst h; exact hne (ei.symm.trans ej)
        · have := hd j i hj hi h
          rw [ei, ej] at this
          exact this y hy' hy
      subst this
      omega
  · obtain ⟨L, hL, hyL⟩ := List.mem_flatten.1 hy
    obtain ⟨g1, g2, g3⟩ := loopsL_cyc n six a hL
    exact ⟨g3 y hyL, g1.self hyL⟩
  · obtain ⟨v, hv'⟩ := Option.isSome_iff_exists.1 (h2 y hy)
    obtain ⟨w, hg⟩ := h1.right y v hv'
    have hve : v = ⟨4, y⟩ := by
      have := (wayN_goes n six a y).det hg
      rw [this] at hv; exact hv
    obtain ⟨L, hL, hyL⟩ := h1.found y v hv' hve
    exact List.mem_flatten.2 ⟨L, (hiff L).2 hL, hyL⟩
/-- How many fates are of routers that come to themselves. -/
def selfF (f : Fate) : Bool := f.v.kind == 4 && f.v.at_ == f.router
theorem selfs (n : Net) (six : Bool) (a : Addr4) (hok : netOk n = true) : ((n.routers.map (fateN n six a)).countP selfF) = (loopsL n six a n.routers).flatten.length := by
  obtain ⟨h1, h2⟩ := loops_flat n six a hok
  have hids : (idsN n).Nodup := by
    have := (netOk_routers hok).1
    unfold idsN
    rw [List.Nodup, List.pairwise_map]
    exact this.imp fun h => by omega
  have e1 : (n.routers.map (fateN n six a)).countP selfF = ((idsN n).filter fun y => (wayN n six a y).2.kind == 4 && (wayN n six a y).2.at_ == y).length := by
    rw [← List.countP_eq_length_filter]
    unfold idsN
    rw [List.countP_map, List.countP_map]
    refine List.countP_congr fun y _ => ?_
    simp [selfF, fateN, Function.comp_def]
  rw [e1]
  refine List.Perm.length_eq ((List.perm_ext_iff_of_nodup (hids.filter _) h1).2 fun y => ?_)
  rw [h2, List.mem_filter, verd_eta]
  simp
end Go.Am

set_option linter.unusedVariables false
set_option linter.unusedSimpArgs false
set_option pp.deepTerms false
set_option pp.deepTerms.threshold 40
namespace Go.Am
open Go.Proofs

/-! ### the law JudgeRound -/
theorem headI_get {L : List Int} (h : 0 < L.length) : L[0] = headI L := by
  cases L with
  | nil => simp at h
  | cons x l => rfl
theorem rowI_app (l m : List Int) : rowI (l ++ m) = rowI l ++ rowI m := by simp [rowI]
theorem selfF_iff (f : Fate) : selfF f = true ↔ f.v.kind = 4 ∧ f.v.at_ = f.router := by simp [selfF]
set_option maxRecDepth 8000 in
set_option maxHeartbeats 4000000 in
theorem judgeRound_spec (n : Net) (six : Bool) (a : Addr4) (hw : n.wf) (ha : a.wf) : FSpec Tryz.prog 4 [n.av, .bool six, a.av] [kindsO] (.bool true) [kindsO] := by
  have hF := fatesJ_spec n six a hw ha
  have hL := loopsJ_spec n six a hw ha
  refine FSpec.of_o (q := [(11, .n 17), (17, .n 25)]) Tryz.func4 (by kernel_rfl) rfl Tryz.ntmps4 Tryz.results4 hP (by kernel_rfl) (by simp) (by first | rfl | simp) ?_
  simp -implicitDefEqProofs [kindsO]
  first | refine CallK.same (lives_spec) rfl rfl ?_ | refine CallQ.same (lives_spec) rfl rfl ?_ | refine CallQG.same _ (lives_spec) rfl ?_ | refine CallG.same _ (lives_spec) rfl ?_ | refine CallK.pv (lives_spec) rfl rfl ?_
  simp -implicitDefEqProofs
  first | refine CallK.same (hF) rfl rfl ?_ | refine CallQ.same (hF) rfl rfl ?_ | refine CallQG.same _ (hF) rfl ?_ | refine CallG.same _ (hF) rfl ?_ | refine CallK.pv (hF) rfl rfl ?_
  simp -implicitDefEqProofs
  first | refine CallK.same (hL) rfl rfl ?_ | refine CallQ.same (hL) rfl rfl ?_ | refine CallQG.same _ (hL) rfl ?_ | refine CallG.same _ (hL) rfl ?_ | refine CallK.pv (hL) rfl rfl ?_
  simp -implicitDefEqProofs
  cases e : rightN n six a with
  | false =>
    simp -implicitDefEqProofs
    refine EndO.ret [] [0] (.bool true) (by simp) (by simp)
  | true =>
    have h1 : netOk n = true := by unfold rightN at e; simp at e; exact e.1
    have hlen := netOk_len h1
    have hFe : fatesN n six a = n.routers.map (fateN n six a) := by simp [fatesN, e]
    have hLe : loopsN n six a = loopsL n six a n.routers := by simp [loopsN, e]
    rw [hFe, hLe]
    have hll : (n.routers.map (fateN n six a)).length = n.routers.length := by simp
    have hself := selfs n six a h1
    have hord := loopsL_order n six a (netOk_routers h1).1
    have hcyc := fun L hL => loopsL_cyc n six a (L := L) hL
    obtain ⟨hnd, hflat⟩ := loops_flat n six a h1
    generalize n.routers.map (fateN n six a) = F at *
    generalize loopsL n six a n.routers = C at *
    have hfl : C.flatten.length ≤ 64 := by
      rw [← hself]
      have := List.countP_le_length (p := selfF) (l := F)
      omega
    have hCl : C.length ≤ 64 := by
      refine Nat.le_trans ?_ hfl
      rw [List.length_flatten]
      have : ∀ D : List (List Int), (∀ L ∈ D, L ≠ []) → D.length ≤ (D.map List.length).sum := by
        intro D
        induction D with
        | nil => intro _; simp
        | cons L D ih =>
          intro h
          have h1 := ih fun M hM => h M (List.mem_cons_of_mem _ hM)
          have h2 := List.length_pos_iff.2 (h L List.mem_cons_self)
          simp; omega
      refine this C fun L hL e => ?_
      subst e
      exact (hcyc [] hL).1
    simp -implicitDefEqProofs
    refine LoopK.nil (.sl 11 3 1) ?_
    simp -implicitDefEqProofs
    refine LoopK.os (fun i : Nat => [(1, .bool six), (3, .ptr 1 0), (5, .ptr 2 0), (7, .im (.sl 3 (F.map Fate.iv))), (9, .im (.sl 1 (rowL C))), (11, .row 3), (53, .im (.sl 1 (rowL C))), (54, .int .i64 C.length), (55, .int .i64 i)])
      (fun i => [.gl [(0, kindsIV)], .box 25 [.im (.sl 4 (n.seats.map Seat.iv)), .im (.sl 4 (n.routers.map Router.iv))], .box 28 [.int .u64 a.hi, .int .u64 a.lo], .row 3 1 (rowI (C.take i).flatten)])
      (fun i => i ≤ C.length) (fun i => C.length - i) 0 [0, 1, 2, 3] (Nat.zero_le _) (by simp [rowL, rowI]) ?_
    intro i hi
    by_cases hlt : i < C.length
    · have e1 : IntKind.i64.wrap (i + 1) = (i + 1 : Nat) := wrap64 (by omega) (by omega)
      obtain ⟨L, hLi⟩ : ∃ L, C[i] = L := ⟨_, rfl⟩
      have hLm : L ∈ C := by rw [← hLi]; exact List.getElem_mem _
      obtain ⟨c1, c2, c3⟩ := hcyc L hLm
      have hL0 : 0 < L.length := by
        cases L with
        | nil => exact c1.elim
        | cons x l => simp
      have hLh := headI_get hL0
      have hLl : L.length ≤ C.flatten.length := by
        obtain ⟨P1, P2, rfl⟩ := List.append_of_mem hLm
        simp; omega
      have hsplit : C.flatten = (C.take i).flatten ++ (L ++ (C.drop (i + 1)).flatten) := by
        conv => lhs; rw [← List.take_append_drop i C, List.drop_eq_getElem_cons hlt, hLi]
        simp
      have hsnoc : (C.take (i + 1)).flatten = (C.take i).flatten ++ L := by
        rw [List.take_add_one, List.getElem?_eq_getElem hlt, hLi]
        simp
      generalize (C.take i).flatten = A0 at *
      have hA0 : A0.length ≤ 64 := by rw [hsplit] at hfl; simp at hfl; omega
      have hprev : ∀ j (hj : j + 1 = i), 0 < (C[j]'(by omega)).length ∧ headI (C[j]'(by omega)) < headI L := by
        intro j hj
        subst hj
        refine ⟨?_, ?_⟩
        · have := (hcyc (C[j]'(by omega)) (List.getElem_mem _)).1
          generalize (C[j]'(by omega)) = M at this
          cases M with
          | nil => exact this.elim
          | cons x l => simp
        · have := List.pairwise_iff_getElem.1 hord j (j + 1) (by omega) hlt (by omega)
          rw [hLi] at this
          exact this
      have hLd : ((L.length : Int) == 0) = false := by simp; exact fun e => by rw [e] at hL0; simp at hL0
      have hne : L ≠ [] := by intro e; rw [e] at hL0; simp at hL0
      rcases Nat.eq_zero_or_pos i with h0 | h0
      · have em1 : IntKind.i64.wrap ((i : Int) - 1) = -1 := by subst h0; decide
        have hC0 : C[0]'(by omega) = L := by subst h0; exact hLi
        have h00 : ¬ 0 < i := by omega
        simp -implicitDefEqProofs [hlt, hLi, hL0, hLh, em1, hC0, h00, hne, show 0 < C.length by omega, hLd]
        refine LoopK.os (fun k : Nat => [(1, .bool six), (3, .ptr 1 0), (5, .ptr 2 0), (7, .im (.sl 3 (F.map Fate.iv))), (9, .im (.sl 1 (rowL C))), (11, .row 3), (13, .im (.sl 1 (rowI L))), (53, .im (.sl 1 (rowL C))), (54, .int .i64 C.length), (55, .int .i64 i), (80, .im (.sl 1 (rowI L))), (81, .int .i64 L.length), (82, .int .i64 k)])
          (fun k => [.gl [(0, kindsIV)], .box 25 [.im (.sl 4 (n.seats.map Seat.iv)), .im (.sl 4 (n.routers.map Router.iv))], .box 28 [.int .u64 a.hi, .int .u64 a.lo], .row 3 1 (rowI (A0 ++ L.take k))])
          (fun k => k ≤ L.length) (fun k => L.length - k) 0 [0, 1, 2, 3] (Nat.zero_le _) (by simp) ?_
        intro k hk
        by_cases hkl : k < L.length
        · have e2 : IntKind.i64.wrap (k + 1) = (k + 1 : Nat) := wrap64 (by omega) (by omega)
          obtain ⟨y, hy⟩ : ∃ y, L[k] = y := ⟨_, rfl⟩
          obtain ⟨hmv, hpeer⟩ := c1.at_ k hkl
          rw [hy] at hmv hpeer
          have hyh : headI L ≤ y := c2 y (by rw [← hy]; exact List.getElem_mem _)
          have hyh' : ¬ y < headI L := by omega
          have hk1 : (hopN n six a y).kind = 1 := by
            have := hopN_kind n six a y
            obtain ⟨m0, m2, m3⟩ := hmv
            omega
          have hh := hopN_spec n y six a hw ha
          rw [e] at hh
          simp only [if_true] at hh
          obtain ⟨z, hz⟩ : ∃ z, L[(k + 1) % L.length]'(Nat.mod_lt _ hL0) = z := ⟨_, rfl⟩
          rw [hz] at hpeer
          have hmod : (k + 1) % L.length < L.length := Nat.mod_lt _ hL0
          have em : Int.tmod ((k + 1 : Nat) : Int) L.length = ((k + 1) % L.length : Nat) := by
            rw [Int.tmod_eq_emod_of_nonneg (by omega)]; norm_cast
          have em' : Int.tmod ((k : Int) + 1) L.length = ((k + 1) % L.length : Nat) := em
          obtain ⟨q, hq⟩ : ∃ q, (k + 1) % L.length = q := ⟨_, rfl⟩
          have hz : L[q]'(by rw [← hq]; exact hmod) = z := by subst hq; exact hz
          rw [hq] at em em' hmod
          have hnot : y ∉ A0 ++ L.take k := fun hm => by
            have h3 : L = L.take k ++ (y :: L.drop (k + 1)) := by
              conv => lhs; rw [← List.take_append_drop k L, List.drop_eq_getElem_cons hkl, hy]
            rw [hsplit, h3] at hnd
            simp only [List.append_assoc, List.cons_append] at hnd
            rw [← List.append_assoc] at hnd
            exact (List.nodup_append.1 hnd).2.2 y hm y List.mem_cons_self rfl
          have hsn : A0 ++ L.take (k + 1) = A0 ++ L.take k ++ [y] := by
            rw [List.take_add_one, List.getElem?_eq_getElem hkl, hy]; simp
          have hBl : (A0 ++ L.take k).length ≤ 128 := by simp; omega
          generalize A0 ++ L.take k = B at *
          generalize hopN n six a y = Q at *
          simp -implicitDefEqProofs [hkl, hy]
          first | refine CallK.same (hh) rfl rfl ?_ | refine CallQ.same (hh) rfl rfl ?_ | refine CallQG.same _ (hh) rfl ?_ | refine CallG.same _ (hh) rfl ?_ | refine CallK.pv (hh) rfl rfl ?_
          simp -implicitDefEqProofs [hk1, hpeer, e2, em, em', hmod, hz, hL0, hLh, hyh', hLd, hne]
          refine LoopK.os (fun j : Nat => [(1, .bool six), (3, .ptr 1 0), (5, .ptr 2 0), (7, .im (.sl 3 (F.map Fate.iv))), (9, .im (.sl 1 (rowL C))), (11, .row 3), (13, .im (.sl 1 (rowI L))), (15, .int .i64 y), (53, .im (.sl 1 (rowL C))), (54, .int .i64 C.length), (55, .int .i64 i), (80, .im (.sl 1 (rowI L))), (81, .int .i64 L.length), (82, .int .i64 k), (122, .row 3), (123, .int .i64 B.length), (124, .int .i64 j)])
            (fun _ => [.gl [(0, kindsIV)], .box 25 [.im (.sl 4 (n.seats.map Seat.iv)), .im (.sl 4 (n.routers.map Router.iv))], .box 28 [.int .u64 a.hi, .int .u64 a.lo], .row 3 1 (rowI B)])
            (fun j => j ≤ B.length) (fun j => B.length - j) 0 [0, 1, 2, 3] (Nat.zero_le _) (by simp) ?_
          intro jj hjj
          by_cases hjb : jj < B.length
          · have e3 : IntKind.i64.wrap (jj + 1) = (jj + 1 : Nat) := wrap64 (by omega) (by omega)
            obtain ⟨b, hb⟩ : ∃ b, B[jj] = b := ⟨_, rfl⟩
            have hby : ¬ b = y := fun e => hnot (by rw [← e, ← hb]; exact List.getElem_mem _)
            simp -implicitDefEqProofs [hjb, hb, hby]
            refine Again.os (jj + 1) [0, 1, 2, 3] hjb (by omega) ?_
            simp -implicitDefEqProofs [e3]
          · have hjb' : jj = B.length := by omega
            subst hjb'
            simp -implicitDefEqProofs
            refine ⟨⟨by omega, by unfold maxLen; omega⟩, ?_⟩
            refine Again.os (k + 1) [0, 1, 2, 5] hkl (by omega) ?_
            simp -implicitDefEqProofs [e2, hsn, rowI_app, rowI]
        · have hkk : k = L.length := by omega
          subst hkk
          simp -implicitDefEqProofs
          refine Again.os (i + 1) [0, 1, 2, 3] hlt (by omega) ?_
          simp -implicitDefEqProofs [e1, hsnoc]
      · obtain ⟨j, hij⟩ : ∃ j, j + 1 = i := ⟨i - 1, by omega⟩
        obtain ⟨p1, p2⟩ := hprev j hij
        have hph := headI_get p1
        have hjl : j < C.length := by omega
        have e0 : IntKind.i64.wrap ((i : Int) - 1) = j := by rw [wrap64 (by omega) (by omega)]; omega
        have p3 : ¬ headI L ≤ headI C[j] := by omega
        obtain ⟨M, hM⟩ : ∃ M, C[j] = M := ⟨_, rfl⟩
        have hph' : M[0]'(by rw [← hM]; exact p1) = headI M := by subst hM; exact hph
        rw [hM] at p1 p2 p3
        simp -implicitDefEqProofs [hlt, hLi, hL0, hLh, e0, p1, hph', hne, hjl, p3, hM, h0, hLd]
        refine LoopK.os (fun k : Nat => [(1, .bool six), (3, .ptr 1 0), (5, .ptr 2 0), (7, .im (.sl 3 (F.map Fate.iv))), (9, .im (.sl 1 (rowL C))), (11, .row 3), (13, .im (.sl 1 (rowI L))), (53, .im (.sl 1 (rowL C))), (54, .int .i64 C.length), (55, .int .i64 i), (80, .im (.sl 1 (rowI L))), (81, .int .i64 L.length), (82, .int .i64 k)])
          (fun k => [.gl [(0, kindsIV)], .box 25 [.im (.sl 4 (n.seats.map Seat.iv)), .im (.sl 4 (n.routers.map Router.iv))], .box 28 [.int .u64 a.hi, .int .u64 a.lo], .row 3 1 (rowI (A0 ++ L.take k))])
          (fun k => k ≤ L.length) (fun k => L.length - k) 0 [0, 1, 2, 3] (Nat.zero_le _) (by simp) ?_
        intro k hk
        by_cases hkl : k < L.length
        · have e2 : IntKind.i64.wrap (k + 1) = (k + 1 : Nat) := wrap64 (by omega) (by omega)
          obtain ⟨y, hy⟩ : ∃ y, L[k] = y := ⟨_, rfl⟩
          obtain ⟨hmv, hpeer⟩ := c1.at_ k hkl
          rw [hy] at hmv hpeer
          have hyh : headI L ≤ y := c2 y (by rw [← hy]; exact List.getElem_mem _)
          have hyh' : ¬ y < headI L := by omega
          have hk1 : (hopN n six a y).kind = 1 := by
            have := hopN_kind n six a y
            obtain ⟨m0, m2, m3⟩ := hmv
            omega
          have hh := hopN_spec n y six a hw ha
          rw [e] at hh
          simp only [if_true] at hh
          obtain ⟨z, hz⟩ : ∃ z, L[(k + 1) % L.length]'(Nat.mod_lt _ hL0) = z := ⟨_, rfl⟩
          rw [hz] at hpeer
          have hmod : (k + 1) % L.length < L.length := Nat.mod_lt _ hL0
          have em : Int.tmod ((k + 1 : Nat) : Int) L.length = ((k + 1) % L.length : Nat) := by
            rw [Int.tmod_eq_emod_of_nonneg (by omega)]; norm_cast
          have em' : Int.tmod ((k : Int) + 1) L.length = ((k + 1) % L.length : Nat) := em
          obtain ⟨q, hq⟩ : ∃ q, (k + 1) % L.length = q := ⟨_, rfl⟩
          have hz : L[q]'(by rw [← hq]; exact hmod) = z := by subst hq; exact hz
          rw [hq] at em em' hmod
          have hnot : y ∉ A0 ++ L.take k := fun hm => by
            have h3 : L = L.take k ++ (y :: L.drop (k + 1)) := by
              conv => lhs; rw [← List.take_append_drop k L, List.drop_eq_getElem_cons hkl, hy]
            rw [hsplit, h3] at hnd
            simp only [List.append_assoc, List.cons_append] at hnd
            rw [← List.append_assoc] at hnd
            exact (List.nodup_append.1 hnd).2.2 y hm y List.mem_cons_self rfl
          have hsn : A0 ++ L.take (k + 1) = A0 ++ L.take k ++ [y] := by
            rw [List.take_add_one, List.getElem?_eq_getElem hkl, hy]; simp
          have hBl : (A0 ++ L.take k).length ≤ 128 := by simp; omega
          generalize A0 ++ L.take k = B at *
          generalize hopN n six a y = Q at *
          simp -implicitDefEqProofs [hkl, hy]
          first | refine CallK.same (hh) rfl rfl ?_ | refine CallQ.same (hh) rfl rfl ?_ | refine CallQG.same _ (hh) rfl ?_ | refine CallG.same _ (hh) rfl ?_ | refine CallK.pv (hh) rfl rfl ?_
          simp -implicitDefEqProofs [hk1, hpeer, e2, em, em', hmod, hz, hL0, hLh, hyh', hLd, hne]
          refine LoopK.os (fun j : Nat => [(1, .bool six), (3, .ptr 1 0), (5, .ptr 2 0), (7, .im (.sl 3 (F.map Fate.iv))), (9, .im (.sl 1 (rowL C))), (11, .row 3), (13, .im (.sl 1 (rowI L))), (15, .int .i64 y), (53, .im (.sl 1 (rowL C))), (54, .int .i64 C.length), (55, .int .i64 i), (80, .im (.sl 1 (rowI L))), (81, .int .i64 L.length), (82, .int .i64 k), (122, .row 3), (123, .int .i64 B.length), (124, .int .i64 j)])
            (fun _ => [.gl [(0, kindsIV)], .box 25 [.im (.sl 4 (n.seats.map Seat.iv)), .im (.sl 4 (n.routers.map Router.iv))], .box 28 [.int .u64 a.hi, .int .u64 a.lo], .row 3 1 (rowI B)])
            (fun j => j ≤ B.length) (fun j => B.length - j) 0 [0, 1, 2, 3] (Nat.zero_le _) (by simp) ?_
          intro jj hjj
          by_cases hjb : jj < B.length
          · have e3 : IntKind.i64.wrap (jj + 1) = (jj + 1 : Nat) := wrap64 (by omega) (by omega)
            obtain ⟨b, hb⟩ : ∃ b, B[jj] = b := ⟨_, rfl⟩
            have hby : ¬ b = y := fun e => hnot (by rw [← e, ← hb]; exact List.getElem_mem _)
            simp -implicitDefEqProofs [hjb, hb, hby]
            refine Again.os (jj + 1) [0, 1, 2, 3] hjb (by omega) ?_
            simp -implicitDefEqProofs [e3]
          · have hjb' : jj = B.length := by omega
            subst hjb'
            simp -implicitDefEqProofs
            refine ⟨⟨by omega, by unfold maxLen; omega⟩, ?_⟩
            refine Again.os (k + 1) [0, 1, 2, 5] hkl (by omega) ?_
            simp -implicitDefEqProofs [e2, hsn, rowI_app, rowI]
        · have hkk : k = L.length := by omega
          subst hkk
          simp -implicitDefEqProofs
          refine Again.os (i + 1) [0, 1, 2, 3] hlt (by omega) ?_
          simp -implicitDefEqProofs [e1, hsnoc]
    · have hii : i = C.length := by omega
      subst hii
      rw [List.take_length]
      generalize C.flatten = A at *
      simp -implicitDefEqProofs [rowL]
      refine LoopK.os (fun k : Nat => [(1, .bool six), (3, .ptr 1 0), (5, .ptr 2 0), (11, .row 3), (20, .int .i64 ((F.take k).countP selfF : Nat)), (138, .im (.sl 3 (F.map Fate.iv))), (139, .int .i64 F.length), (140, .int .i64 k)])
        (fun _ => [.gl [(0, kindsIV)], .box 25 [.im (.sl 4 (n.seats.map Seat.iv)), .im (.sl 4 (n.routers.map Router.iv))], .box 28 [.int .u64 a.hi, .int .u64 a.lo], .row 3 1 (rowI A)])
        (fun k => k ≤ F.length) (fun k => F.length - k) 0 [0, 1, 2, 3] (Nat.zero_le _) (by simp) ?_
      intro k hk
      by_cases hkl : k < F.length
      · have e1 : IntKind.i64.wrap (k + 1) = (k + 1 : Nat) := wrap64 (by omega) (by omega)
        obtain ⟨f, hf⟩ : ∃ f, F[k] = f := ⟨_, rfl⟩
        have hle : (F.take k).countP selfF ≤ F.length := Nat.le_trans List.countP_le_length (by simp; omega)
        have hst : (F.take (k + 1)).countP selfF = (F.take k).countP selfF + if selfF f = true then 1 else 0 := by
          rw [List.take_add_one, List.getElem?_eq_getElem hkl, hf, List.countP_append]
          simp [List.countP_cons]
        generalize (F.take k).countP selfF = M at *
        have e2 : IntKind.i64.wrap ((M : Int) + 1) = (M + 1 : Nat) := wrap64 (by omega) (by omega)
        simp -implicitDefEqProofs [hkl, hf, e1, e2]
        refine ⟨fun g1 g2 => ?_, fun g => ?_⟩
        · have hs : selfF f = true := (selfF_iff f).2 ⟨g1, g2⟩
          refine Again.os (k + 1) [0, 1, 2, 3] hkl (by omega) ?_
          simp -implicitDefEqProofs [hst, hs]
        · have hs : selfF f = false := by
            cases hs : selfF f with
            | true => exact absurd ((selfF_iff f).1 hs).2 (g ((selfF_iff f).1 hs).1)
            | false => rfl
          refine Again.os (k + 1) [0, 1, 2, 3] hkl (by omega) ?_
          simp -implicitDefEqProofs [hst, hs]
      · have hkk : k = F.length := by omega
        subst hkk
        rw [List.take_length]
        simp -implicitDefEqProofs
        refine LoopK.os (fun k : Nat => [(1, .bool six), (3, .ptr 1 0), (5, .ptr 2 0), (11, .row 3), (20, .int .i64 A.length), (159, .row 3), (160, .int .i64 A.length), (161, .int .i64 k)])
          (fun _ => [.gl [(0, kindsIV)], .box 25 [.im (.sl 4 (n.seats.map Seat.iv)), .im (.sl 4 (n.routers.map Router.iv))], .box 28 [.int .u64 a.hi, .int .u64 a.lo], .row 3 1 (rowI A)])
          (fun k => k ≤ A.length) (fun k => A.length - k) 0 [0, 1, 2, 3] (Nat.zero_le _) (by simp [hself]) ?_
        intro k hk
        by_cases hkl : k < A.length
        · have e1 : IntKind.i64.wrap (k + 1) = (k + 1 : Nat) := wrap64 (by omega) (by omega)
          obtain ⟨y, hy⟩ : ∃ y, A[k] = y := ⟨_, rfl⟩
          have hym := (hflat y).1 (by rw [← hy]; exact List.getElem_mem _)
          have hid := netOk_ids h1 y hym.1
          have hws := walk_spec n six a y hw ha e hid
          have hv := hym.2
          generalize wayN n six a y = W at *
          simp -implicitDefEqProofs [hkl, hy]
          refine CallO.mk [] [0] hws (by simp) rfl (by simp [kindsO]) (by simp [kindsO]) (by simp [kindsO]) ?_
          simp -implicitDefEqProofs [kindsO, hv]
          refine Again.os (k + 1) [0, 1, 2, 3] hkl (by omega) ?_
          simp -implicitDefEqProofs [e1]
        · have hkk : k = A.length := by omega
          subst hkk
          simp -implicitDefEqProofs
          refine EndO.ret [] [0] (.bool true) (by simp) (by simp)
end Go.Am
