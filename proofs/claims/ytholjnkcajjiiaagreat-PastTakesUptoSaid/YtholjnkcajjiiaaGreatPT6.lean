import Derived.Test.YtholjnkcajjiiaaGreatPT3
import Derived.Test.YtholjnkcajjiiaaGreatPT5
set_option linter.unusedVariables false
set_option linter.unusedSimpArgs false
set_option pp.deepTerms false
set_option pp.deepTerms.threshold 40
namespace Go.Am
open Go.Proofs

theorem bs_ne {α : Type} {c : α → Int} : ∀ {l : List α}, strictC c l → l.filter (fun x => decide (¬ c x = 0)) = l.filter (fun x => decide (c x < 0)) ++ l.filter fun x => decide (0 < c x)
  | [], _ => rfl
  | x :: l, h => by
    have h1 := List.pairwise_cons.1 h
    have ih := bs_ne h1.2
    simp only [List.filter_cons]
    by_cases hx : c x < 0
    · have h2 : ¬ c x = 0 := by omega
      have h3 : ¬ 0 < c x := by omega
      simp only [hx, h2, h3, decide_true, decide_false, not_false_eq_true, if_true, Bool.false_eq_true, if_false, List.cons_append, ih]
    · have hl : l.filter (fun x => decide (c x < 0)) = [] := by
        rw [List.filter_eq_nil_iff]
        intro y hy
        have := h1.1 y hy (by omega)
        simp; omega
      rw [hl, List.nil_append] at ih
      by_cases h0 : c x = 0
      · have h3 : ¬ 0 < c x := by omega
        simp only [hx, h0, decide_false, not_true_eq_false, if_false, Bool.false_eq_true, hl, List.nil_append, ih]
        simp
      · have h3 : 0 < c x := by omega
        simp only [hx, h0, h3, decide_true, decide_false, not_false_eq_true, if_true, Bool.false_eq_true, if_false, hl, List.nil_append, ih]
theorem cmpP_gt (p q : Pfx) : 0 < cmpP p q ↔ cmpP q p < 0 := by
  rw [cmpP_iff]
  simp only [cmpP, cmpA, orInt, cmpI]
  repeat' split
  all_goals omega
theorem cmpP_zero (p q : Pfx) : cmpP p q = 0 ↔ sameP p q = true := by
  have h1 := cmpP_iff p q
  have h2 := cmpP_gt p q
  have h3 := cmpP_iff q p
  have hk : kindP p = kindP q ↔ p.six = q.six := by
    unfold kindP
    cases p.six <;> cases q.six <;> simp
  rw [sameP_iff, ← hk]
  omega
theorem checkR_sorted {l : List Route} (h : checkR l = 0) : l.Pairwise fun r s => cmpP r.pfx s.pfx < 0 := by
  unfold checkR at h
  split at h
  · cases h
  · exact (checkRL_sorted h).2.2
theorem strictR {l : List Route} (h : checkR l = 0) (p : Pfx) : strictC (cmpQ p) l := by
  refine (checkR_sorted h).imp fun {x y} hxy h0 => ?_
  unfold cmpQ at *
  rw [cmpP_gt]
  have h1 := cmpP_iff x.pfx p
  rw [cmpP_iff] at hxy ⊢
  omega
theorem woR_cmp {l : List Route} (h : checkR l = 0) (p : Pfx) : woR p l = l.filter (fun x => decide (cmpQ p x < 0)) ++ l.filter fun x => decide (0 < cmpQ p x) := by
  rw [← bs_ne (strictR h p)]
  unfold woR cmpQ
  congr
  funext r
  have := cmpP_zero r.pfx p
  cases hs : sameP r.pfx p <;> simp [hs] at this <;> simp [this]
theorem ltR_wo (l : List Route) (p : Pfx) : ltR p (woR p l) = l.filter fun x => decide (cmpQ p x < 0) := by
  unfold ltR woR cmpQ
  rw [List.filter_filter]
  congr
  funext r
  have := cmpP_zero r.pfx p
  cases hs : sameP r.pfx p <;> simp [hs] at this <;> simp [this]
theorem gtR_wo (l : List Route) (p : Pfx) : gtR p (woR p l) = l.filter fun x => decide (0 < cmpQ p x) := by
  unfold gtR woR cmpQ
  rw [List.filter_filter]
  congr
  funext r
  have := cmpP_zero r.pfx p
  have h2 := cmpP_gt r.pfx p
  cases hs : sameP r.pfx p <;> simp [hs] at this <;> simp [← h2, this]
theorem woR_256 {l : List Route} (h : checkR l = 0) (p : Pfx) : (woR p l).length = 256 ↔ bsF (cmpQ p) l = false ∧ l.length = 256 := by
  have hl := checkR_len h
  rw [woR_cmp h]
  cases hf : bsF (cmpQ p) l with
  | false =>
    rw [← bs_none (strictR h p) hf]
    simp
  | true =>
    rw [← bs_del (strictR h p) hf]
    have := bsF_ltn hf
    simp
    omega
theorem findW_bs {l : List Route} (h : checkR l = 0) (p : Pfx) : (findW p l).isSome = bsF (cmpQ p) l := by
  have hm := bs_mem (strictR h p)
  have hw : ∀ l : List Route, (findW p l).isSome = true ↔ ∃ x ∈ l, cmpQ p x = 0 := by
    intro l
    induction l with
    | nil => simp [findW]
    | cons x l ih =>
      rw [findW]
      have := cmpP_zero x.pfx p
      split
      · rename_i hs
        simp only [Option.isSome_some, true_iff]
        exact ⟨x, List.mem_cons_self, this.2 hs⟩
      · rename_i hs
        rw [ih]
        constructor
        · rintro ⟨y, hy, h0⟩; exact ⟨y, List.mem_cons_of_mem _ hy, h0⟩
        · rintro ⟨y, hy, h0⟩
          rcases List.mem_cons.1 hy with rfl | hy
          · exact absurd (this.1 h0) hs
          · exact ⟨y, hy, h0⟩
  have := (hw l).trans hm.symm
  cases h1 : (findW p l).isSome <;> cases h2 : bsF (cmpQ p) l <;> simp [h1, h2] at this ⊢
set_option maxRecDepth 8000 in
set_option maxHeartbeats 2000000 in
theorem putRo_spec (l : List Route) (x : Route) :
    FSpec Tryz.prog 239 [.im (.sl 6 (l.map Route.iv)), x.av] [] (.tup [.im (.sl 6 ((putRt l x).1.map Route.iv)), .int .i64 (putRt l x).2]) [] := by
  have hc := checkR_spec l
  have ho := routeOk_spec x
  refine FSpec.of_z (q := []) Tryz.func239 (by kernel_rfl) rfl Tryz.ntmps239 Tryz.results239 hP (by kernel_rfl) (by simp) (by first | rfl | simp) ?_
  simp -implicitDefEqProofs
  first | refine CallK.same (hc) rfl rfl ?_ | refine CallQ.same (hc) rfl rfl ?_ | refine CallQG.same _ (hc) rfl ?_ | refine CallG.same _ (hc) rfl ?_ | refine CallK.pv (hc) rfl rfl ?_
  simp -implicitDefEqProofs
  first | refine CallK.same (ho) rfl rfl ?_ | refine CallQ.same (ho) rfl rfl ?_ | refine CallQG.same _ (ho) rfl ?_ | refine CallG.same _ (ho) rfl ?_ | refine CallK.pv (ho) rfl rfl ?_
  simp -implicitDefEqProofs
  refine ⟨fun h => ?_, fun a1 a2 => ?_⟩
  · refine EndZ.ret [] (.tup [.im (.sc (.slice none 0 0)), .int .i64 2]) (by simp) ?_
    simp [putRt, h]
  have hlen := checkR_len a1
  have hcl := cloRoute_spec (l.map Route.iv) (by simp; omega)
  have hf := bsR_spec l x.pfx (strictR a1 _)
  have hP : putRt l x = if bsF (cmpQ x.pfx) l = false ∧ l.length = 256 then (l, 8) else (l.filter (fun y => decide (cmpQ x.pfx y < 0)) ++ [x] ++ l.filter (fun y => decide (0 < cmpQ x.pfx y)), 0) := by
    unfold putRt
    rw [if_neg (by simp [a1, a2]), ltR_wo, gtR_wo]
    simp only [woR_256 a1]
  have hs1 := bs_set (strictR a1 x.pfx) x
  have hs2 := bs_ins (strictR a1 x.pfx) x
  have hlt1 := fun hh => bsF_ltn (c := cmpQ x.pfx) (l := l) hh
  have hle := bsI_le (cmpQ x.pfx) l
  generalize putRt l x = RES at *
  generalize bsI (cmpQ x.pfx) l = i at *
  have hi := insRoute_spec (l.map Route.iv) x.iv i (by simpa using hle) (by simp; omega)
  refine CallK.outs [] hcl rfl (by simp) (by simp [AV.flat]) ?_
  simp -implicitDefEqProofs
  refine CallK.fz [1] hf rfl (by simp) rfl ?_
  simp -implicitDefEqProofs
  cases hfb : bsF (cmpQ x.pfx) l with
  | true =>
    have hlt := hlt1 hfb
    have hset := hs1 hfb
    have hmod := mod_set Route.iv l x i (fun y => x.iv ++ y.drop 6) (fun y => by simp)
    obtain ⟨Y, hY⟩ : ∃ Y, l.set i x = Y := ⟨_, rfl⟩
    rw [if_neg (by simp [hfb]), ← hset, hY] at hP
    rw [hY] at hmod
    subst hP
    simp -implicitDefEqProofs [hlt]
    refine EndZ.ret [1] (.tup [.row 1, .int .i64 0]) (by simp) ?_
    rw [← hmod]
    simp -implicitDefEqProofs
  | false =>
    have hset := hs2 hfb
    simp -implicitDefEqProofs
    refine ⟨fun h32 => ?_, fun h32 => ?_⟩
    · rw [if_pos ⟨hfb, by omega⟩] at hP
      subst hP
      refine EndZ.ret [1] (.tup [.row 1, .int .i64 8]) (by simp) ?_
      simp -implicitDefEqProofs
    · rw [if_neg (fun hh => h32 (by omega)), ← hset] at hP
      subst hP
      refine CallO.mk [] [1, 2] hi (by simp) rfl (by simp) (by simp) (by simp) ?_
      simp -implicitDefEqProofs
      refine EndZ.ret [3] (.tup [.row 3, .int .i64 0]) (by simp) ?_
      simp -implicitDefEqProofs
theorem findRo_spec (l : List Route) (p : Pfx) :
    FSpec Tryz.prog 255 [.im (.sl 6 (l.map Route.iv)), p.av] [] (.tup [.int .i64 (if findRt l p = 0 then bsI (cmpQ p) l else 0), .int .i64 (findRt l p)]) [] := by
  have hc := checkR_spec l
  have ho := checkP_spec p
  refine FSpec.of_flat (q := []) Tryz.func255 (by kernel_rfl) rfl Tryz.ntmps255 Tryz.results255 hP (by kernel_rfl) (by simp) (by first | rfl | simp) ?_
  simp -implicitDefEqProofs
  first | refine CallK.same (hc) rfl rfl ?_ | refine CallQ.same (hc) rfl rfl ?_ | refine CallQG.same _ (hc) rfl ?_ | refine CallG.same _ (hc) rfl ?_ | refine CallK.pv (hc) rfl rfl ?_
  simp -implicitDefEqProofs
  first | refine CallK.same (ho) rfl rfl ?_ | refine CallQ.same (ho) rfl rfl ?_ | refine CallQG.same _ (ho) rfl ?_ | refine CallG.same _ (ho) rfl ?_ | refine CallK.pv (ho) rfl rfl ?_
  simp -implicitDefEqProofs
  refine ⟨fun h => ?_, fun a1 a2 => ?_⟩
  · simp [findRt, h]
  have hf := bsR_spec l p (strictR a1 _)
  have hx : findRt l p = if bsF (cmpQ p) l then 0 else 3 := by
    unfold findRt
    rw [if_neg (by simp [a1, a2]), findW_bs a1]
  first | refine CallK.same (hf) rfl rfl ?_ | refine CallQ.same (hf) rfl rfl ?_ | refine CallQG.same _ (hf) rfl ?_ | refine CallG.same _ (hf) rfl ?_ | refine CallK.pv (hf) rfl rfl ?_
  simp -implicitDefEqProofs
  rw [hx]
  cases bsF (cmpQ p) l <;> simp
set_option maxRecDepth 8000 in
set_option maxHeartbeats 2000000 in
theorem delRo_spec (l : List Route) (p : Pfx) :
    FSpec Tryz.prog 240 [.im (.sl 6 (l.map Route.iv)), p.av] [] (.tup [.im (.sl 6 ((delRt l p).1.map Route.iv)), .int .i64 (delRt l p).2]) [] := by
  have hf := findRo_spec l p
  refine FSpec.of_z (q := []) Tryz.func240 (by kernel_rfl) rfl Tryz.ntmps240 Tryz.results240 hP (by kernel_rfl) (by simp) (by first | rfl | simp) ?_
  simp -implicitDefEqProofs
  first | refine CallK.same (hf) rfl rfl ?_ | refine CallQ.same (hf) rfl rfl ?_ | refine CallQG.same _ (hf) rfl ?_ | refine CallG.same _ (hf) rfl ?_ | refine CallK.pv (hf) rfl rfl ?_
  simp -implicitDefEqProofs
  by_cases h2 : findRt l p = 2
  · simp -implicitDefEqProofs [h2]
    refine EndZ.ret [] (.tup [.im (.sc (.slice none 0 0)), .int .i64 2]) (by simp [h2]) ?_
    simp [delRt, h2]
  have a1 : checkR l = 0 := by
    apply Classical.byContradiction
    intro h
    apply h2
    unfold findRt
    rw [if_pos (.inl h)]
  have hx : findRt l p = if bsF (cmpQ p) l then 0 else 3 := by
    unfold findRt at h2 ⊢
    split at h2
    · exact absurd rfl h2
    · rename_i h3
      rw [if_neg h3, findW_bs a1]
  have hP : delRt l p = (l.filter (fun y => decide (cmpQ p y < 0)) ++ l.filter (fun y => decide (0 < cmpQ p y)), if bsF (cmpQ p) l then 0 else 3) := by
    unfold delRt
    rw [if_neg h2, woR_cmp a1, hx]
  have hlen := checkR_len a1
  have hcl := cloRoute_spec (l.map Route.iv) (by simp; omega)
  have hs1 := bs_del (strictR a1 p)
  have hs2 := bs_none (strictR a1 p)
  have hlt1 := fun hh => bsF_ltn (c := cmpQ p) (l := l) hh
  generalize delRt l p = RES at *
  generalize bsI (cmpQ p) l = j at *
  cases hfb : bsF (cmpQ p) l with
  | true =>
    rw [if_pos hfb] at hx
    have hlt := hlt1 hfb
    have hset := hs1 hfb
    have hd := delRoute_spec (l.map Route.iv) j (by simpa using hlt) (by simp; omega)
    have e1 : IntKind.i64.wrap ((j : Int) + 1) = (j + 1 : Nat) := wrap64 (by omega) (by omega)
    rw [← hset, if_pos hfb] at hP
    subst hP
    simp -implicitDefEqProofs [hx, e1]
    refine CallK.outs [] hcl rfl (by simp) (by simp [AV.flat]) ?_
    simp -implicitDefEqProofs [hx, e1]
    refine CallO.mk [] [1] hd (by simp) rfl (by simp) (by simp) (by simp) ?_
    simp -implicitDefEqProofs
    refine EndZ.ret [2] (.tup [.row 2, .int .i64 0]) (by simp) ?_
    simp -implicitDefEqProofs
  | false =>
    rw [if_neg (by simp [hfb])] at hx
    rw [← hs2 hfb, if_neg (by simp [hfb])] at hP
    subst hP
    simp -implicitDefEqProofs [hx]
    refine CallK.outs [] hcl rfl (by simp) (by simp [AV.flat]) ?_
    simp -implicitDefEqProofs [hx]
    refine EndZ.ret [1] (.tup [.row 1, .int .i64 3]) (by simp) ?_
    simp -implicitDefEqProofs
end Go.Am


set_option linter.unusedVariables false
set_option linter.unusedSimpArgs false
set_option pp.deepTerms false
set_option pp.deepTerms.threshold 40
namespace Go.Am
open Go.Proofs

theorem ownF_spec (r : Router) (h1 : r.routes.length ≤ 4096) (h2 : r.links.length ≤ 4096) : FSpec Tryz.prog 161 [r.av] [] r.av [] := by
  have hc1 := cloRoute_spec (r.routes.map Route.iv) (by simpa using h1)
  have hc2 := cloLink_spec (r.links.map Link.iv) (by simpa using h2)
  refine FSpec.of_z (q := [(1, .m [.p [], .p [], .e [4], .p [0], .p [0], .e [7], .p [1]])]) Tryz.func161 (by kernel_rfl) rfl Tryz.ntmps161 Tryz.results161 hP (by kernel_rfl) (by simp) (by first | rfl | simp) ?_
  simp -implicitDefEqProofs
  refine CallK.outs [] hc1 rfl (by simp) (by simp [AV.flat]) ?_
  simp -implicitDefEqProofs
  refine CallK.outs [] hc2 rfl (by simp) (by simp [AV.flat]) ?_
  simp -implicitDefEqProofs
  refine EndZ.ret [2, 3] (.agg [.int .i64 r.id, .bool r.up, .row 2, .row 3]) (by simp) ?_
  simp -implicitDefEqProofs
@[simp] def boxR (r : Router) : AObj := .box 265 [.int .i64 r.id, .bool r.up, .im (.sl 6 (r.routes.map Route.iv)), .im (.sl 2 (r.links.map Link.iv))]
theorem setRoutes_spec (r : Router) (l : List Route) (w : Int) : FSpec Tryz.prog 238 [.ptr 0 0, .im (.sl 6 (l.map Route.iv)), .int .i64 w] [boxR r] (.int .i64 w) [boxR ⟨r.id, r.up, l, r.links⟩] := by
  refine FSpec.of_o (q := []) Tryz.func238 (by kernel_rfl) rfl Tryz.ntmps238 Tryz.results238 hP (by kernel_rfl) (by simp) (by first | rfl | simp) ?_
  simp -implicitDefEqProofs [boxR]
  refine EndO.ret [] [0] (.int .i64 w) (by simp) (by simp)
theorem setLinks_spec (r : Router) (l : List Link) (w : Int) : FSpec Tryz.prog 241 [.ptr 0 0, .im (.sl 2 (l.map Link.iv)), .int .i64 w] [boxR r] (.int .i64 w) [boxR ⟨r.id, r.up, r.routes, l⟩] := by
  refine FSpec.of_o (q := []) Tryz.func241 (by kernel_rfl) rfl Tryz.ntmps241 Tryz.results241 hP (by kernel_rfl) (by simp) (by first | rfl | simp) ?_
  simp -implicitDefEqProofs [boxR]
  refine EndO.ret [] [0] (.int .i64 w) (by simp) (by simp)
def doneR (r : Router) (e : Ev) : Router × Int :=
  if r.up = (e.kind == 1) then (r, 10)
  else if e.kind = 1 then (⟨r.id, true, r.routes, r.links⟩, 0)
  else if e.kind = 2 then (⟨r.id, false, [], []⟩, 0)
  else if e.kind = 3 then (⟨r.id, r.up, (putRt r.routes ⟨e.pfx, e.act⟩).1, r.links⟩, (putRt r.routes ⟨e.pfx, e.act⟩).2)
  else if e.kind = 4 then (⟨r.id, r.up, (delRt r.routes e.pfx).1, r.links⟩, 0)
  else if e.kind = 5 then (⟨r.id, r.up, r.routes, (putLk r.links ⟨e.iface, e.peer⟩).1⟩, (putLk r.links ⟨e.iface, e.peer⟩).2)
  else (⟨r.id, r.up, r.routes, (delLk r.links e.iface).1⟩, 0)
theorem evOk_tail {e : Ev} (h : evOk e = true) : tailOk e = true := by
  unfold evOk at h
  simp only [Bool.and_eq_true] at h
  exact h.2
theorem doneR_eq {r : Router} {e : Ev} (h1 : routerOk r = true) (h2 : evOk e = true) (h3 : e.router = r.id) : doneR r e = applyR r e := by
  unfold applyR doneR
  simp only [h1, h2, h3, Bool.true_eq_false, or_self, not_true_eq_false, if_false]
  have ht := evOk_tail h2
  unfold routerOk at h1
  simp only [Bool.and_eq_true, beq_iff_eq] at h1
  have hR := h1.1.2
  have hL := h1.2
  by_cases hup : r.up = (e.kind == 1)
  · rw [if_pos hup, if_pos hup]
  rw [if_neg hup, if_neg hup]
  by_cases k1 : e.kind = 1
  · rw [if_pos k1, if_pos k1]
  rw [if_neg k1, if_neg k1]
  by_cases k2 : e.kind = 2
  · rw [if_pos k2, if_pos k2]
  rw [if_neg k2, if_neg k2]
  by_cases k3 : e.kind = 3
  · rw [if_pos k3, if_pos k3]
    have : routeOk ⟨e.pfx, e.act⟩ = true := by
      simp [tailOk, k3] at ht
      simp [routeOk, ht]
    unfold putRt
    rw [if_neg (by simp [hR, this])]
    split <;> simp
  rw [if_neg k3, if_neg k3]
  by_cases k4 : e.kind = 4
  · rw [if_pos k4, if_pos k4]
  rw [if_neg k4, if_neg k4]
  by_cases k5 : e.kind = 5
  · rw [if_pos k5, if_pos k5]
    have : rightL ⟨e.iface, e.peer⟩ = true := by
      simp [tailOk, k5] at ht
      simp [rightL, ifaceOk, idOk] at ht ⊢
      omega
    unfold putLk
    rw [if_neg (by simp [hL, this])]
    split <;> simp
  rw [if_neg k5, if_neg k5]
set_option maxRecDepth 8000 in
set_option maxHeartbeats 4000000 in
theorem happenB_spec (r : Router) (e : Ev) (a2 : evOk e = true) :
    FSpec Tryz.prog 208 [.ptr 0 0, e.av] [boxR r] (.int .i64 (doneR r e).2) [boxR (doneR r e).1] := by
  have hx : doneR r e = _ := rfl
  conv at hx => rhs; unfold doneR
  generalize doneR r e = RES at *
  refine FSpec.of_o (q := [(10, .n 14), (12, .n 11), (14, .n 14), (16, .n 11)]) Tryz.func208 (by kernel_rfl) rfl Tryz.ntmps208 Tryz.results208 hP (by kernel_rfl) (by simp) (by first | rfl | simp) ?_
  simp -implicitDefEqProofs [boxR]
  refine ⟨fun h => ?_, fun a4 => ?_⟩
  · rw [if_pos h] at hx
    subst hx
    refine EndO.ret [] [0] (.int .i64 10) (by simp) (by simp)
  rw [if_neg a4] at hx
  rcases evOk_kind a2 with hk | hk | hk | hk | hk | hk
  · simp [hk] at hx
    subst hx
    simp -implicitDefEqProofs [hk]
    refine EndO.ret [] [0] (.int .i64 0) (by simp) (by simp)
  · simp [hk] at hx
    subst hx
    simp -implicitDefEqProofs [hk]
    refine EndO.ret [] [0] (.int .i64 0) (by simp) (by simp)
  · simp [hk] at hx
    have hp := putRo_spec r.routes ⟨e.pfx, e.act⟩
    simp -implicitDefEqProofs [hk]
    generalize putRt r.routes ⟨e.pfx, e.act⟩ = RS at *
    subst hx
    first | refine CallK.same (hp) rfl rfl ?_ | refine CallQ.same (hp) rfl rfl ?_ | refine CallQG.same _ (hp) rfl ?_ | refine CallG.same _ (hp) rfl ?_ | refine CallK.pv (hp) rfl rfl ?_
    simp -implicitDefEqProofs
    refine CallO.mk [] [0] (setRoutes_spec r RS.1 RS.2) (by simp) rfl (by simp [boxR]) (by simp) (by simp) ?_
    simp -implicitDefEqProofs [boxR]
    refine EndO.ret [] [0] (.int .i64 RS.2) (by simp) (by simp)
  · simp [hk] at hx
    have hp := delRo_spec r.routes e.pfx
    simp -implicitDefEqProofs [hk]
    generalize delRt r.routes e.pfx = RS at *
    subst hx
    first | refine CallK.same (hp) rfl rfl ?_ | refine CallQ.same (hp) rfl rfl ?_ | refine CallQG.same _ (hp) rfl ?_ | refine CallG.same _ (hp) rfl ?_ | refine CallK.pv (hp) rfl rfl ?_
    simp -implicitDefEqProofs
    refine CallO.mk [] [0] (setRoutes_spec r RS.1 RS.2) (by simp) rfl (by simp [boxR]) (by simp) (by simp) ?_
    simp -implicitDefEqProofs [boxR]
    refine EndO.ret [] [0] (.int .i64 0) (by simp) (by simp)
  · simp [hk] at hx
    have hp := putLo_spec r.links ⟨e.iface, e.peer⟩
    simp -implicitDefEqProofs [hk]
    generalize putLk r.links ⟨e.iface, e.peer⟩ = RS at *
    subst hx
    first | refine CallK.same (hp) rfl rfl ?_ | refine CallQ.same (hp) rfl rfl ?_ | refine CallQG.same _ (hp) rfl ?_ | refine CallG.same _ (hp) rfl ?_ | refine CallK.pv (hp) rfl rfl ?_
    simp -implicitDefEqProofs
    refine CallO.mk [] [0] (setLinks_spec r RS.1 RS.2) (by simp) rfl (by simp [boxR]) (by simp) (by simp) ?_
    simp -implicitDefEqProofs [boxR]
    refine EndO.ret [] [0] (.int .i64 RS.2) (by simp) (by simp)
  · simp [hk] at hx
    have hp := delLo_spec r.links e.iface
    simp -implicitDefEqProofs [hk]
    generalize delLk r.links e.iface = RS at *
    subst hx
    first | refine CallK.same (hp) rfl rfl ?_ | refine CallQ.same (hp) rfl rfl ?_ | refine CallQG.same _ (hp) rfl ?_ | refine CallG.same _ (hp) rfl ?_ | refine CallK.pv (hp) rfl rfl ?_
    simp -implicitDefEqProofs
    refine CallO.mk [] [0] (setLinks_spec r RS.1 RS.2) (by simp) rfl (by simp [boxR]) (by simp) (by simp) ?_
    simp -implicitDefEqProofs [boxR]
    refine EndO.ret [] [0] (.int .i64 0) (by simp) (by simp)
set_option maxRecDepth 8000 in
set_option maxHeartbeats 4000000 in
theorem applyRo_spec (r : Router) (e : Ev) (hsq : 0 ≤ e.seq) :
    FSpec Tryz.prog 163 [r.av, e.av] [] (.tup [(applyR r e).1.av, .int .i64 (applyR r e).2]) [] := by
  have hc := checkF_spec r
  have he := evOk_spec e hsq
  have hx1 : routerOk r = false ∨ evOk e = false → applyR r e = (router0, 2) := fun h => by unfold applyR; rw [if_pos h]
  have hx2 : routerOk r = true → evOk e = true → ¬ e.router = r.id → applyR r e = (r, 14) := fun h1 h2 h => by unfold applyR; rw [if_neg (by simp [h1, h2]), if_pos h]
  have hx3 := doneR_eq (r := r) (e := e)
  generalize applyR r e = RES at *
  refine FSpec.of_z (q := []) Tryz.func163 (by kernel_rfl) rfl Tryz.ntmps163 Tryz.results163 hP (by kernel_rfl) (by simp) (by first | rfl | simp) ?_
  simp -implicitDefEqProofs
  first | refine CallK.same (hc) rfl rfl ?_ | refine CallQ.same (hc) rfl rfl ?_ | refine CallQG.same _ (hc) rfl ?_ | refine CallG.same _ (hc) rfl ?_ | refine CallK.pv (hc) rfl rfl ?_
  simp -implicitDefEqProofs
  first | refine CallK.same (he) rfl rfl ?_ | refine CallQ.same (he) rfl rfl ?_ | refine CallQG.same _ (he) rfl ?_ | refine CallG.same _ (he) rfl ?_ | refine CallK.pv (he) rfl rfl ?_
  simp -implicitDefEqProofs
  refine ⟨fun h => ?_, fun a1 a2 => ?_⟩
  · refine EndZ.ret [] (.tup [.agg [.int .i64 0, .bool false, .im (.sc (.slice none 0 0)), .im (.sc (.slice none 0 0))], .int .i64 2]) (by simp) ?_
    simp [hx1 h, router0]
  obtain ⟨l1, l2⟩ := routerOk_len a1
  have hcp := ownF_spec r (by omega) (by omega)
  first | refine CallK.same (hcp) rfl rfl ?_ | refine CallQ.same (hcp) rfl rfl ?_ | refine CallQG.same _ (hcp) rfl ?_ | refine CallG.same _ (hcp) rfl ?_ | refine CallK.pv (hcp) rfl rfl ?_
  simp -implicitDefEqProofs
  refine ⟨fun h => ?_, fun a3 => ?_⟩
  · refine EndZ.ret [] (.tup [r.av, .int .i64 14]) (by simp) ?_
    simp [hx2 a1 a2 h]
  have hR := hx3 a1 a2 a3
  subst hR
  refine CallO.mk [] [3] (happenB_spec r e a2) (by simp) rfl (by simp [boxR]) (by simp) (by simp) ?_
  generalize doneR r e = RES
  simp -implicitDefEqProofs [boxR]
  refine EndZ.ret [] (.tup [RES.1.av, .int .i64 RES.2]) (by simp) ?_
  simp -implicitDefEqProofs
end Go.Am


set_option linter.unusedVariables false
set_option linter.unusedSimpArgs false
set_option pp.deepTerms false
set_option pp.deepTerms.threshold 40
namespace Go.Am
open Go.Proofs

theorem pw_put {α : Type} {R : α → α → Prop} {l : List α} {p q : α → Bool} {x : α} (h : l.Pairwise R) (h1 : ∀ a ∈ l, p a = true → R a x) (h2 : ∀ a ∈ l, q a = true → R x a) (h3 : ∀ a b, R a x → R x b → R a b) : (l.filter p ++ [x] ++ l.filter q).Pairwise R := by
  rw [List.pairwise_append, List.pairwise_append]
  refine ⟨⟨h.filter _, List.pairwise_singleton _ _, ?_⟩, h.filter _, ?_⟩
  · intro a ha b hb
    rw [List.mem_singleton] at hb
    subst hb
    rw [List.mem_filter] at ha
    exact h1 a ha.1 ha.2
  · intro a ha b hb
    rw [List.mem_filter] at hb
    rw [List.mem_append, List.mem_singleton] at ha
    rcases ha with ha | rfl
    · rw [List.mem_filter] at ha
      exact h3 a b (h1 a ha.1 ha.2) (h2 b hb.1 hb.2)
    · exact h2 b hb.1 hb.2
theorem checkRL_of : ∀ {l : List Route} {pv : Option Pfx}, (∀ r ∈ l, routeOk r = true) → (∀ p, pv = some p → ∀ r ∈ l, cmpP p r.pfx < 0) → (l.Pairwise fun r s => cmpP r.pfx s.pfx < 0) → checkRL l pv = 0
  | [], pv, _, _, _ => rfl
  | r :: l, pv, h1, h2, h3 => by
    have h4 := List.pairwise_cons.1 h3
    rw [checkRL, if_neg]
    · exact checkRL_of (fun x hx => h1 x (List.mem_cons_of_mem _ hx)) (fun p hp x hx => by cases hp; exact h4.1 x hx) h4.2
    · have : aheadR pv r = true := by
        cases pv with
        | none => rfl
        | some p => simpa [aheadR] using h2 p rfl r List.mem_cons_self
      simp [h1 r List.mem_cons_self, this]
theorem checkR_of {l : List Route} (h0 : l.length ≤ 256) (h1 : ∀ r ∈ l, routeOk r = true) (h3 : l.Pairwise fun r s => cmpP r.pfx s.pfx < 0) : checkR l = 0 := by
  unfold checkR
  rw [if_neg (by omega)]
  exact checkRL_of h1 (fun p hp => by cases hp) h3
theorem checkR_mem {l : List Route} (h : checkR l = 0) : ∀ r ∈ l, routeOk r = true := by
  unfold checkR at h
  split at h
  · cases h
  · exact (checkRL_sorted h).1
theorem cmpP_trans {p q r : Pfx} (h1 : cmpP p q < 0) (h2 : cmpP q r < 0) : cmpP p r < 0 := by
  rw [cmpP_iff] at *
  omega
theorem putRt_ok {l : List Route} {x : Route} (h : (putRt l x).2 = 0) : checkR (putRt l x).1 = 0 := by
  unfold putRt at h ⊢
  split at h
  · cases h
  rename_i hc
  have hR : checkR l = 0 := by apply Classical.byContradiction; intro hn; exact hc (.inl hn)
  have hx : routeOk x = true := by cases hr : routeOk x with | true => rfl | false => exact absurd (.inr hr) hc
  rw [if_neg hc]
  split at h
  · cases h
  rename_i h256
  rw [if_neg h256, ltR_wo, gtR_wo]
  rw [woR_256 hR] at h256
  have hlen := checkR_len hR
  refine checkR_of ?_ ?_ ?_
  · cases hf : bsF (cmpQ x.pfx) l with
    | true => rw [← bs_set (strictR hR _) x hf]; simpa using hlen
    | false =>
      rw [← bs_ins (strictR hR _) x hf]
      have := bsI_le (cmpQ x.pfx) l
      have h9 : ¬ l.length = 256 := fun h => h256 ⟨hf, h⟩
      simp only [List.length_append, List.length_cons, List.length_take, List.length_drop]
      omega
  · intro r hr
    simp only [List.mem_append, List.mem_singleton, List.mem_filter] at hr
    rcases hr with (hr | rfl) | hr
    · exact checkR_mem hR r hr.1
    · exact hx
    · exact checkR_mem hR r hr.1
  · refine pw_put (checkR_sorted hR) ?_ ?_ ?_
    · intro a ha h1
      exact of_decide_eq_true h1
    · intro a ha h1
      exact (cmpP_gt _ _).1 (of_decide_eq_true h1)
    · intro a b h1 h2
      exact cmpP_trans h1 h2
theorem delRt_ok {l : List Route} {p : Pfx} (hR : checkR l = 0) : checkR (delRt l p).1 = 0 := by
  unfold delRt
  split
  · rfl
  have hlen := checkR_len hR
  have hw := woR_len p l
  refine checkR_of (by show (woR p l).length ≤ 256; omega) ?_ ?_
  · intro r hr
    simp only [woR, List.mem_filter] at hr
    exact checkR_mem hR r hr.1
  · exact (checkR_sorted hR).filter _
theorem checkLL_of : ∀ {l : List Link} {a : Int}, (∀ x ∈ l, rightL x = true) → (∀ x ∈ l, a < x.iface) → (l.Pairwise fun x y => x.iface < y.iface) → checkLL l a = 0
  | [], a, _, _, _ => rfl
  | x :: l, a, h1, h2, h3 => by
    have h4 := List.pairwise_cons.1 h3
    have h5 := h2 x List.mem_cons_self
    rw [checkLL, if_neg (by simp [h1 x List.mem_cons_self]; omega)]
    exact checkLL_of (fun y hy => h1 y (List.mem_cons_of_mem _ hy)) h4.1 h4.2
theorem checkLL_mem : ∀ {l : List Link} {a : Int}, checkLL l a = 0 → ∀ x ∈ l, rightL x = true
  | [], _, _, x, hx => by cases hx
  | y :: l, a, h, x, hx => by
    rw [checkLL] at h
    split at h
    · cases h
    rename_i hc
    simp at hc
    rcases List.mem_cons.1 hx with rfl | hx
    · exact hc.1
    · exact checkLL_mem h x hx
theorem checkL_mem {l : List Link} (h : checkL l = 0) : ∀ x ∈ l, rightL x = true := by
  unfold checkL at h
  split at h
  · cases h
  · exact checkLL_mem h
theorem rightL_pos {x : Link} (h : rightL x = true) : -1 < x.iface := by
  simp [rightL] at h
  omega
theorem checkL_of {l : List Link} (h0 : l.length ≤ 32) (h1 : ∀ x ∈ l, rightL x = true) (h3 : l.Pairwise fun x y => x.iface < y.iface) : checkL l = 0 := by
  unfold checkL
  rw [if_neg (by omega)]
  exact checkLL_of h1 (fun x hx => rightL_pos (h1 x hx)) h3
theorem putLk_ok {l : List Link} {x : Link} (h : (putLk l x).2 = 0) : checkL (putLk l x).1 = 0 := by
  unfold putLk at h ⊢
  split at h
  · cases h
  rename_i hc
  have hR : checkL l = 0 := by apply Classical.byContradiction; intro hn; exact hc (.inl hn)
  have hx : rightL x = true := by cases hr : rightL x with | true => rfl | false => exact absurd (.inr hr) hc
  rw [if_neg hc]
  split at h
  · cases h
  rename_i h32
  rw [if_neg h32, ltL_cmp, gtL_cmp]
  rw [eqL_bs hR] at h32
  have hlen := checkL_32 hR
  refine checkL_of ?_ ?_ ?_
  · cases hf : bsF (cmpL x.iface) l with
    | true => rw [← bs_set (strictL hR _) x hf]; simpa using hlen
    | false =>
      rw [← bs_ins (strictL hR _) x hf]
      have := bsI_le (cmpL x.iface) l
      have h9 : ¬ l.length = 32 := fun h => h32 ⟨hf, h⟩
      simp only [List.length_append, List.length_cons, List.length_take, List.length_drop]
      omega
  · intro r hr
    simp only [List.mem_append, List.mem_singleton, List.mem_filter] at hr
    rcases hr with (hr | rfl) | hr
    · exact checkL_mem hR r hr.1
    · exact hx
    · exact checkL_mem hR r hr.1
  · refine pw_put (checkL_sorted hR) ?_ ?_ ?_
    · intro a ha h1
      simpa [cmpL_neg] using h1
    · intro a ha h1
      simpa [cmpL_pos] using h1
    · intro a b h1 h2
      omega
theorem delLk_ok {l : List Link} {i : Int} (hR : checkL l = 0) : checkL (delLk l i).1 = 0 := by
  unfold delLk
  rw [if_neg (by simp [hR])]
  have hlen := checkL_32 hR
  rw [ltL_cmp, gtL_cmp, ← bs_ne (strictL hR i)]
  refine checkL_of ?_ ?_ ?_
  · have := List.length_filter_le (fun x : Link => decide (¬ cmpL i x = 0)) l
    show (l.filter (fun x : Link => decide (¬ cmpL i x = 0))).length ≤ 32
    omega
  · intro r hr
    exact checkL_mem hR r (List.mem_filter.1 hr).1
  · exact (checkL_sorted hR).filter _
theorem applyR_ok {r : Router} {e : Ev} (h1 : routerOk r = true) (h2 : evOk e = true) (h3 : e.router = r.id) (h4 : (applyR r e).2 = 0) : routerOk (applyR r e).1 = true ∧ (applyR r e).1.id = e.router ∧ (applyR r e).1.up = (e.kind != 2) := by
  have h1' := h1
  unfold applyR at h4 ⊢
  simp only [h1, h2, h3, Bool.true_eq_false, or_self, not_true_eq_false, if_false] at h4 ⊢
  unfold routerOk at h1
  simp only [Bool.and_eq_true, beq_iff_eq] at h1
  obtain ⟨⟨⟨a1, a2⟩, a3⟩, a4⟩ := h1
  by_cases hup : r.up = (e.kind == 1)
  · rw [if_pos hup] at h4
    cases h4
  rw [if_neg hup] at h4 ⊢
  by_cases k1 : e.kind = 1
  · rw [if_pos k1] at h4 ⊢
    simp [routerOk, a1, a3, a4, k1]
  rw [if_neg k1] at h4 ⊢
  have hu : r.up = true := by
    cases hr : r.up with
    | true => rfl
    | false => exact absurd (by rw [hr]; symm; simpa using k1) hup
  by_cases k2 : e.kind = 2
  · rw [if_pos k2] at h4 ⊢
    simp [routerOk, a1, k2, checkR, checkRL, checkL, checkLL]
  rw [if_neg k2] at h4 ⊢
  by_cases k3 : e.kind = 3
  · rw [if_pos k3] at h4 ⊢
    split at h4
    · rename_i hp
      rw [if_pos hp]
      simp [routerOk, a1, a4, hu, k2, putRt_ok hp]
    · rename_i hp
      exact absurd h4 hp
  rw [if_neg k3] at h4 ⊢
  by_cases k4 : e.kind = 4
  · rw [if_pos k4] at h4 ⊢
    simp [routerOk, a1, a4, hu, k2, delRt_ok a3]
  rw [if_neg k4] at h4 ⊢
  by_cases k5 : e.kind = 5
  · rw [if_pos k5] at h4 ⊢
    split at h4
    · rename_i hp
      rw [if_pos hp]
      simp [routerOk, a1, a3, hu, k2, putLk_ok hp]
    · rename_i hp
      exact absurd h4 hp
  rw [if_neg k5] at h4 ⊢
  simp [routerOk, a1, a3, hu, k2, delLk_ok a4]
end Go.Am


set_option linter.unusedVariables false
set_option linter.unusedSimpArgs false
set_option pp.deepTerms false
set_option pp.deepTerms.threshold 40
namespace Go.Am
open Go.Proofs

theorem mayS_zero {l : List Seat} {e : Ev} {hz : Int} (h : mayS l e hz = 0) : checkS l = 0 ∧ evOk e = true ∧ -1 ≤ hz ∧ hz ≤ 1099511627776 ∧ mayT l e hz = 0 := by
  unfold mayS at h
  split at h
  · cases h
  rename_i h1
  split at h
  · cases h
  rename_i h2
  refine ⟨?_, ?_, by omega, by omega, h⟩
  · apply Classical.byContradiction; intro hn; exact h1 (.inl hn)
  · cases he : evOk e with | true => rfl | false => exact absurd (.inr he) h1
theorem mayT_len {l : List Seat} {e : Ev} {hz : Int} (h : mayT l e hz = 0) : seatF l e.router = none → ¬ l.length = 64 := by
  intro h1 h2
  unfold mayT at h
  split at h
  · cases h
  split at h
  · cases h
  split at h
  · cases h
  split at h
  · cases h
  rw [if_pos ⟨h1, h2⟩] at h
  cases h
theorem seatF_none {l : List Seat} {x : Int} : seatF l x = none ↔ ¬ ∃ s ∈ l, s.router = x := by
  induction l with
  | nil => simp [seatF]
  | cons s l ih =>
    rw [seatF]
    split
    · rename_i h
      simp [h]
    · rename_i h
      rw [ih]
      simp [h]
theorem cmpS_zero (n : Int) (x : Seat) : cmpS n x = 0 ↔ x.router = n := by
  have h1 := cmpS_lt n x
  have h2 := cmpS_gt n x
  omega
theorem seatF_bs {l : List Seat} (h : checkS l = 0) (x : Int) : seatF l x = none ↔ bsF (cmpS x) l = false := by
  rw [seatF_none]
  have hm := bs_mem (strictS h x)
  simp only [cmpS_zero] at hm
  rw [← hm]
  cases bsF (cmpS x) l <;> simp
theorem checkSL_of : ∀ {l : List Seat} {a : Int}, (∀ x ∈ l, rightS x = true) → (∀ x ∈ l, a < x.router) → (l.Pairwise fun x y => x.router < y.router) → checkSL l a = 0
  | [], a, _, _, _ => rfl
  | x :: l, a, h1, h2, h3 => by
    have h4 := List.pairwise_cons.1 h3
    have h5 := h2 x List.mem_cons_self
    rw [checkSL, if_neg (by simp [h1 x List.mem_cons_self]; omega)]
    exact checkSL_of (fun y hy => h1 y (List.mem_cons_of_mem _ hy)) h4.1 h4.2
theorem checkS_sorted {l : List Seat} (h : checkS l = 0) : l.Pairwise fun x y => x.router < y.router := by
  unfold checkS at h
  split at h
  · cases h
  · exact (checkSL_sorted h).2
theorem rightS_pos {x : Seat} (h : rightS x = true) : -1 < x.router := by
  simp [rightS] at h
  omega
theorem checkS_of {l : List Seat} (h0 : l.length ≤ 64) (h1 : ∀ x ∈ l, rightS x = true) (h3 : l.Pairwise fun x y => x.router < y.router) : checkS l = 0 := by
  unfold checkS
  rw [if_neg (by omega)]
  exact checkSL_of h1 (fun x hx => rightS_pos (h1 x hx)) h3
theorem evOk_seat {e : Ev} (h : evOk e = true) : rightS (seatOf e) = true ∧ idOk e.router = true := by
  unfold evOk headOk at h
  simp only [Bool.and_eq_true, decide_eq_true_eq] at h
  obtain ⟨⟨⟨⟨⟨a1, a2⟩, a3⟩, a4⟩, a5⟩, _⟩ := h
  refine ⟨?_, a1⟩
  simp only [idOk, Bool.and_eq_true, decide_eq_true_eq] at a1
  simp only [rightS, Bool.and_eq_true, decide_eq_true_eq]
  exact ⟨⟨⟨⟨⟨a1.1, a1.2⟩, a2⟩, a3⟩, a4⟩, a5⟩
theorem putSeat_mem {l : List Seat} {s t : Seat} (h : t ∈ putSeat l s) : t = s ∨ t ∈ l ∧ ¬ t.router = s.router := by
  simp only [putSeat, List.mem_append, List.mem_singleton, List.mem_filter, decide_eq_true_eq] at h
  rcases h with (h | h) | h
  · exact .inr ⟨h.1, by omega⟩
  · exact .inl h
  · exact .inr ⟨h.1, by omega⟩
theorem putSeat_ok {l : List Seat} {e : Ev} {hz : Int} (h : mayS l e hz = 0) : checkS (putSeat l (seatOf e)) = 0 := by
  obtain ⟨h1, h2, h3, h4, h5⟩ := mayS_zero h
  have hlen := checkS_len h1
  refine checkS_of ?_ ?_ ?_
  · rw [putSeat_cmp]
    cases hf : bsF (cmpS e.router) l with
    | true => rw [← bs_set (strictS h1 _) _ hf]; simpa using hlen
    | false =>
      rw [← bs_ins (strictS h1 _) _ hf]
      have := bsI_le (cmpS e.router) l
      have h9 := mayT_len h5 ((seatF_bs h1 _).2 hf)
      simp only [List.length_append, List.length_cons, List.length_take, List.length_drop]
      omega
  · intro t ht
    rcases putSeat_mem ht with rfl | ht
    · exact (evOk_seat h2).1
    · exact checkS_mem h1 t ht.1
  · refine pw_put (checkS_sorted h1) ?_ ?_ ?_
    · intro a ha h1
      exact of_decide_eq_true h1
    · intro a ha h1
      exact of_decide_eq_true h1
    · intro a b h1 h2
      omega
theorem cmpT_gt (n : Int) (x : Router) : 0 < cmpT n x ↔ n < x.id := by
  unfold cmpT cmpI
  repeat' split
  all_goals omega
theorem strictT {l : List Router} (h : l.Pairwise fun x y => x.id < y.id) (n : Int) : strictC (cmpT n) l := by
  refine h.imp fun {x y} hxy h0 => ?_
  rw [cmpT_gt]
  have := cmpT_neg n x
  omega
theorem routerF_mem : ∀ {R : List Router}, (R.Pairwise fun x y => x.id < y.id) → ∀ r ∈ R, routerF R r.id = some r
  | [], _, r, hr => by cases hr
  | x :: R, h, r, hr => by
    have h1 := List.pairwise_cons.1 h
    have ih := routerF_mem h1.2
    unfold routerF at *
    rw [List.find?_cons]
    rcases List.mem_cons.1 hr with rfl | hr
    · simp
    · have := h1.1 r hr
      have hne : decide (x.id = r.id) = false := by simp; omega
      rw [hne]
      exact ih r hr
theorem map_filter_rt (R0 : List Router) (d : Router) (p : Int → Bool) : ∀ (R : List Router) (S : List Seat), R.map Router.id = S.map Seat.router → (∀ r ∈ R, routerF R0 r.id = some r) → (S.filter fun s => p s.router).map (fun s => (routerF R0 s.router).getD d) = R.filter fun r => p r.id
  | [], [], _, _ => rfl
  | r :: R, s :: S, h, hr => by
    simp only [List.map_cons, List.cons.injEq] at h
    have ih := map_filter_rt R0 d p R S h.2 fun x hx => hr x (List.mem_cons_of_mem _ hx)
    rw [List.filter_cons, List.filter_cons, ← h.1]
    split
    · rw [List.map_cons, ih, ← h.1, hr r List.mem_cons_self]
      rfl
    · exact ih
  | [], _ :: _, h, _ => by simp at h
  | _ :: _, [], h, _ => by simp at h
theorem netOk_ids2 {n : Net} (h : netOk n = true) : n.routers.map Router.id = n.seats.map Seat.router := by
  unfold netOk at h
  simp only [Bool.and_eq_true, beq_iff_eq] at h
  exact (zipOk_map h.1.2).1
theorem netOk_checkS {n : Net} (h : netOk n = true) : checkS n.seats = 0 := by
  unfold netOk at h
  simp only [Bool.and_eq_true, beq_iff_eq] at h
  exact h.1.1.1
theorem map_afterN {n : Net} {e : Ev} {hz : Int} {m : Router} {l : List Seat} (h : ∀ s ∈ l, ¬ s.router = e.router) : l.map (afterN n e hz m) = l.map fun s => (routerF n.routers s.router).getD ⟨0, false, [], []⟩ := by
  apply List.map_congr_left
  intro s hs
  unfold afterN
  rw [if_neg (h s hs)]
theorem netAfter_routers {n : Net} {e : Ev} {hz : Int} (hok : netOk n = true) (h : mayS n.seats e hz = 0) : (netAfter n e hz).routers = n.routers.filter (fun r => decide (cmpT e.router r < 0)) ++ [(applyR (mineN n e) e).1] ++ n.routers.filter fun r => decide (0 < cmpT e.router r) := by
  have hn : (nextS n.seats e hz).1 = putSeat n.seats (seatOf e) := by
    unfold nextS
    rw [if_neg (by omega), if_neg (by omega)]
  unfold netAfter
  simp only [hn]
  generalize (applyR (mineN n e) e).1 = m
  unfold putSeat
  have hx : (seatOf e).router = e.router := rfl
  rw [hx, List.map_append, List.map_append]
  have hr := routerF_mem (netOk_routers hok).1
  have hid := netOk_ids2 hok
  rw [map_afterN (l := n.seats.filter fun s => decide (s.router < e.router)) (fun s hs => by have := of_decide_eq_true (List.mem_filter.1 hs).2; omega),
    map_afterN (l := n.seats.filter fun s => decide (e.router < s.router)) (fun s hs => by have := of_decide_eq_true (List.mem_filter.1 hs).2; omega)]
  rw [map_filter_rt n.routers _ (fun i => decide (i < e.router)) n.routers n.seats hid hr, map_filter_rt n.routers _ (fun i => decide (e.router < i)) n.routers n.seats hid hr]
  simp only [cmpT_neg, cmpT_gt, List.map_cons, List.map_nil]
  have : afterN n e hz m (seatOf e) = m := by unfold afterN; rw [if_pos hx]
  rw [this]
theorem zip_mem : ∀ {R : List Router} {S : List Seat}, zipOk R S = true → ∀ s ∈ S, ∃ r ∈ R, routerOk r = true ∧ r.id = s.router ∧ r.up = s.up
  | [], [], _, s, hs => by cases hs
  | r :: R, t :: S, h, s, hs => by
    simp [zipOk] at h
    obtain ⟨⟨⟨h1, h2⟩, h3⟩, h4⟩ := h
    rcases List.mem_cons.1 hs with rfl | hs
    · exact ⟨r, List.mem_cons_self, h1, h2, h3⟩
    · obtain ⟨r', a, b⟩ := zip_mem h4 s hs
      exact ⟨r', List.mem_cons_of_mem _ a, b⟩
  | [], _ :: _, h, _, _ => by simp [zipOk] at h
  | _ :: _, [], h, _, _ => by simp [zipOk] at h
theorem zip_of {f : Seat → Router} : ∀ {S : List Seat}, (∀ s ∈ S, routerOk (f s) = true ∧ (f s).id = s.router ∧ (f s).up = s.up) → zipOk (S.map f) S = true
  | [], _ => rfl
  | s :: S, h => by
    obtain ⟨h1, h2, h3⟩ := h s List.mem_cons_self
    simp only [List.map_cons, zipOk, h1, h2, h3, beq_self_eq_true, Bool.and_self, Bool.true_and]
    exact zip_of fun t ht => h t (List.mem_cons_of_mem _ ht)
theorem mineN_ok {n : Net} {e : Ev} (hok : netOk n = true) (he : evOk e = true) : routerOk (mineN n e) = true ∧ e.router = (mineN n e).id := by
  unfold mineN
  have hid := (evOk_seat he).2
  cases hr : routerF n.routers e.router with
  | some r =>
    have h1 := List.find?_some hr
    have h2 := List.mem_of_find?_eq_some hr
    simp at h1
    exact ⟨(netOk_routers hok).2 r h2, h1.symm⟩
  | none =>
    simp [hid, routerOk, checkR, checkRL, checkL, checkLL]
theorem netAfter_ok {n : Net} {e : Ev} {hz : Int} (hok : netOk n = true) (h : mayS n.seats e hz = 0) (h2 : (applyR (mineN n e) e).2 = 0) (h3 : ¬ 1024 < many (netAfter n e hz).routers 0) : netOk (netAfter n e hz) = true := by
  obtain ⟨g1, g2, g3, g4, g5⟩ := mayS_zero h
  have hn : (nextS n.seats e hz).1 = putSeat n.seats (seatOf e) := by
    unfold nextS
    rw [if_neg (by omega), if_neg (by omega)]
  obtain ⟨m1, m2⟩ := mineN_ok hok g2
  obtain ⟨a1, a2, a3⟩ := applyR_ok m1 g2 m2 h2
  have hz' : zipOk n.routers n.seats = true := by
    unfold netOk at hok
    simp only [Bool.and_eq_true, beq_iff_eq] at hok
    exact hok.1.2
  unfold netOk
  simp only [Bool.and_eq_true, beq_iff_eq, decide_eq_true_eq]
  refine ⟨⟨⟨?_, ?_⟩, ?_⟩, by omega⟩
  · show checkS (nextS n.seats e hz).1 = 0
    rw [hn]
    exact putSeat_ok h
  · simp [netAfter]
  · show zipOk ((nextS n.seats e hz).1.map _) (nextS n.seats e hz).1 = true
    refine zip_of fun s hs => ?_
    rw [hn] at hs
    unfold afterN
    rcases putSeat_mem hs with rfl | ⟨hs, hne⟩
    · rw [if_pos (show (seatOf e).router = e.router from rfl)]
      exact ⟨a1, a2, a3⟩
    · rw [if_neg (show ¬ s.router = e.router from hne)]
      obtain ⟨r, b1, b2, b3, b4⟩ := zip_mem hz' s hs
      rw [← b3, routerF_mem (netOk_routers hok).1 r b1]
      exact ⟨b2, rfl, b4⟩
theorem happensF_ok {n : Net} {e : Ev} {hz : Int} (hok : netOk n = true) : netOk (happensF n e hz).1 = true := by
  unfold happensF
  split
  · exact hok
  rename_i h1
  split
  · exact hok
  rename_i h2
  split
  · exact hok
  rename_i h3
  exact netAfter_ok hok (by omega) (by omega) h3
def sz (r : Router) : Nat := r.routes.length + r.links.length
def sumR : List Router → Nat
  | [] => 0
  | r :: l => sz r + sumR l
theorem sumR_app (a b : List Router) : sumR (a ++ b) = sumR a + sumR b := by
  induction a with
  | nil => simp [sumR]
  | cons x a ih => simp only [List.cons_append, sumR, ih]; omega
theorem many_sum : ∀ (l : List Router) (a : Nat), a + sumR l ≤ 1000000000 → many l a = (a + sumR l : Nat)
  | [], a, _ => by simp [many, sumR]
  | r :: l, a, h => by
    simp only [sumR] at h ⊢
    unfold sz at h
    have e1 : IntKind.i64.wrap ((r.routes.length : Int) + r.links.length) = (sz r : Nat) := by
      rw [wrap64 (by omega) (by omega)]
      unfold sz
      omega
    have e2 : IntKind.i64.wrap ((a : Int) + (sz r : Nat)) = (a + sz r : Nat) := by
      unfold sz
      rw [wrap64 (by omega) (by omega)]
      omega
    rw [many, e1, e2, many_sum l (a + sz r) (by unfold sz; omega)]
    congr 1
    omega
theorem sumR_le : ∀ {l : List Router}, (∀ r ∈ l, routerOk r = true) → sumR l ≤ 288 * l.length
  | [], _ => by simp [sumR]
  | r :: l, h => by
    have h1 := routerOk_len (h r List.mem_cons_self)
    have h2 := sumR_le fun x hx => h x (List.mem_cons_of_mem _ hx)
    simp only [sumR, List.length_cons]
    unfold sz
    omega
theorem netOk_many {n : Net} (hok : netOk n = true) : many n.routers 0 = sumR n.routers ∧ sumR n.routers ≤ 1024 := by
  have h1 := sumR_le (netOk_routers hok).2
  have h2 := netOk_len hok
  have h3 := many_sum n.routers 0 (by omega)
  have h4 : many n.routers 0 = sumR n.routers := by simpa using h3
  refine ⟨h4, ?_⟩
  unfold netOk at hok
  simp only [Bool.and_eq_true, beq_iff_eq, decide_eq_true_eq] at hok
  omega
theorem mineN_found {n : Net} {e : Ev} (hok : netOk n = true) (hf : bsF (cmpT e.router) n.routers = true) : n.routers[bsI (cmpT e.router) n.routers]? = some (mineN n e) := by
  have h := routerF_bs (n := e.router) (netOk_routers hok).1
  rw [if_pos hf] at h
  obtain ⟨y, hy⟩ := bsF_lt hf
  unfold mineN
  rw [h, hy]
theorem mineN_new {n : Net} {e : Ev} (hok : netOk n = true) (he : evOk e = true) (hf : bsF (cmpT e.router) n.routers = false) : mineN n e = ⟨e.router, false, [], []⟩ := by
  have h := routerF_bs (n := e.router) (netOk_routers hok).1
  rw [if_neg (by simp [hf])] at h
  unfold mineN
  rw [h]
  simp [(evOk_seat he).2]
theorem after_set {n : Net} {e : Ev} {hz : Int} (hok : netOk n = true) (h : mayS n.seats e hz = 0) (hf : bsF (cmpT e.router) n.routers = true) : (netAfter n e hz).routers = n.routers.set (bsI (cmpT e.router) n.routers) (applyR (mineN n e) e).1 := by
  rw [netAfter_routers hok h, bs_set (strictT (netOk_routers hok).1 _) _ hf]
theorem after_ins {n : Net} {e : Ev} {hz : Int} (hok : netOk n = true) (h : mayS n.seats e hz = 0) (hf : bsF (cmpT e.router) n.routers = false) : (netAfter n e hz).routers = n.routers.take (bsI (cmpT e.router) n.routers) ++ (applyR (mineN n e) e).1 :: n.routers.drop (bsI (cmpT e.router) n.routers) := by
  rw [netAfter_routers hok h, bs_ins (strictT (netOk_routers hok).1 _) _ hf]
theorem many_after {n : Net} {e : Ev} {hz : Int} (hok : netOk n = true) (h : mayS n.seats e hz = 0) (h2 : (applyR (mineN n e) e).2 = 0) : many (netAfter n e hz).routers 0 = (sumR n.routers : Int) - sz (mineN n e) + sz (applyR (mineN n e) e).1 ∧ sz (mineN n e) ≤ sumR n.routers ∧ sz (applyR (mineN n e) e).1 ≤ 288 := by
  obtain ⟨g1, g2, g3, g4, g5⟩ := mayS_zero h
  obtain ⟨m1, m2⟩ := mineN_ok hok g2
  obtain ⟨a1, a2, a3⟩ := applyR_ok m1 g2 m2 h2
  have hb := (netOk_many hok).2
  have hl := routerOk_len a1
  have hA : sz (applyR (mineN n e) e).1 ≤ 288 := by unfold sz; omega
  cases hf : bsF (cmpT e.router) n.routers with
  | true =>
    have hg := mineN_found hok hf
    rw [after_set hok h hf]
    obtain ⟨hi, hge⟩ := List.getElem?_eq_some_iff.1 hg
    have hs : sumR n.routers = sumR (n.routers.take (bsI (cmpT e.router) n.routers)) + (sz (mineN n e) + sumR (n.routers.drop (bsI (cmpT e.router) n.routers + 1))) := by
      conv => lhs; rw [← List.take_append_drop (bsI (cmpT e.router) n.routers) n.routers, sumR_app, List.drop_eq_getElem_cons hi, hge, sumR]
    have hs2 : sumR (n.routers.set (bsI (cmpT e.router) n.routers) (applyR (mineN n e) e).1) = sumR (n.routers.take (bsI (cmpT e.router) n.routers)) + (sz (applyR (mineN n e) e).1 + sumR (n.routers.drop (bsI (cmpT e.router) n.routers + 1))) := by
      rw [List.set_eq_take_append_cons_drop, if_pos hi, sumR_app, sumR]
    have hm := many_sum (n.routers.set (bsI (cmpT e.router) n.routers) (applyR (mineN n e) e).1) 0 (by omega)
    refine ⟨?_, by omega, hA⟩
    rw [show ((0 : Int)) = ((0 : Nat) : Int) from rfl, hm]
    omega
  | false =>
    have hg := mineN_new hok g2 hf
    have h0 : sz (mineN n e) = 0 := by rw [hg]; rfl
    rw [after_ins hok h hf]
    have hs : sumR n.routers = sumR (n.routers.take (bsI (cmpT e.router) n.routers)) + sumR (n.routers.drop (bsI (cmpT e.router) n.routers)) := by
      conv => lhs; rw [← List.take_append_drop (bsI (cmpT e.router) n.routers) n.routers, sumR_app]
    have hs2 : sumR (n.routers.take (bsI (cmpT e.router) n.routers) ++ (applyR (mineN n e) e).1 :: n.routers.drop (bsI (cmpT e.router) n.routers)) = sumR (n.routers.take (bsI (cmpT e.router) n.routers)) + (sz (applyR (mineN n e) e).1 + sumR (n.routers.drop (bsI (cmpT e.router) n.routers))) := by
      rw [sumR_app, sumR]
    have hm := many_sum (n.routers.take (bsI (cmpT e.router) n.routers) ++ (applyR (mineN n e) e).1 :: n.routers.drop (bsI (cmpT e.router) n.routers)) 0 (by omega)
    refine ⟨?_, by omega, hA⟩
    rw [show ((0 : Int)) = ((0 : Nat) : Int) from rfl, hm]
    omega
end Go.Am


set_option linter.unusedVariables false
set_option linter.unusedSimpArgs false
set_option pp.deepTerms false
set_option pp.deepTerms.threshold 40
namespace Go.Am
open Go.Proofs

theorem Router.len_of {r : Router} (h : routerOk r = true) : r.routes.length ≤ 4096 ∧ r.links.length ≤ 4096 := by
  have := routerOk_len h
  omega
theorem mod_same {α : Type} (f : α → List IV) (l : List α) (i : Nat) (s : α) (hs : l[i]? = some s) (g : List IV → List IV) (hg : ∀ x, g (f x) = f s) : (l.map f).modify i g = l.map f := by
  rw [mod_set f l s i g hg]
  congr 1
  apply List.ext_getElem?
  intro j
  rw [List.getElem?_set]
  split
  · rename_i h
    subst h
    rw [if_pos (List.getElem?_eq_some_iff.1 hs).1, hs]
  · rfl
set_option maxRecDepth 8000 in
set_option maxHeartbeats 1000000 in
theorem ownN_spec (n : Net) (h : netOk n = true) : FSpec Tryz.prog 126 [n.av] [] (.agg [.im (.sl 4 (n.seats.map Seat.iv)), .row 0]) [.row 85 4 (n.routers.map Router.iv)] := by
  have h1 := netOk_seats h
  have h2 := netOk_len h
  have h3 := (netOk_routers h).2
  have hc1 := cloSeat_spec (n.seats.map Seat.iv) (by simp; omega)
  have hc2 := cloRouter_spec (n.routers.map Router.iv) (by simp; omega)
  refine FSpec.of_o (q := [(1, .m [.p [], .p [], .e [6], .p [0], .p [0], .e [9], .p [1]]), (5, .m [.p [1], .p [1], .p [1], .p [], .e [24]])]) Tryz.func126 (by kernel_rfl) rfl Tryz.ntmps126 Tryz.results126 hP (by kernel_rfl) (by simp) (by first | rfl | simp) ?_
  simp -implicitDefEqProofs
  refine CallK.outs [] hc1 rfl (by simp) (by simp [AV.flat]) ?_
  simp -implicitDefEqProofs
  refine CallK.outs [] hc2 rfl (by simp) (by simp [AV.flat]) ?_
  simp -implicitDefEqProofs
  refine LoopK.os (fun k : Nat => [(1, .ptr 0 0), (2, .ptr 1 0), (14, .row 3), (15, .int .i64 n.routers.length), (16, .int .i64 k)])
    (fun _ => [.box 25 [.row 2, .row 3], .box 25 [.im (.sc (.slice none 0 0)), .im (.sc (.slice none 0 0))], .row 65 4 (n.seats.map Seat.iv), .row 85 4 (n.routers.map Router.iv)])
    (fun k => k ≤ n.routers.length) (fun k => n.routers.length - k) 0 [0, 1, 2, 3] (Nat.zero_le _) (by simp) ?_
  intro k hk
  by_cases hlt : k < n.routers.length
  · have e1 : IntKind.i64.wrap (k + 1) = (k + 1 : Nat) := wrap64 (by omega) (by omega)
    have hg := List.getElem?_eq_getElem hlt
    obtain ⟨y, hy⟩ : ∃ y, n.routers[k] = y := ⟨_, rfl⟩
    rw [hy] at hg
    have hyo := Router.len_of (h3 y (List.mem_of_getElem? hg))
    have ho := ownF_spec y hyo.1 hyo.2
    simp -implicitDefEqProofs [hlt, hy]
    first | refine CallK.same (ho) rfl rfl ?_ | refine CallQ.same (ho) rfl rfl ?_ | refine CallQG.same _ (ho) rfl ?_ | refine CallG.same _ (ho) rfl ?_ | refine CallK.pv (ho) rfl rfl ?_
    simp -implicitDefEqProofs [hlt]
    refine Again.os (k + 1) [0, 1, 2, 3] hlt (by omega) ?_
    have hm := mod_same Router.iv n.routers k y hg (fun x => y.iv ++ x.drop 4) (fun x => by simp)
    simp -implicitDefEqProofs at hm
    simp -implicitDefEqProofs [e1, hm]
  · have hkk : k = n.routers.length := by omega
    subst hkk
    simp -implicitDefEqProofs
    refine EndO.ret [2] [3] (.agg [.row 2, .row 3]) (by simp) ?_
    simp -implicitDefEqProofs
theorem placeN_spec (n : Net) (x : Int) (h : netOk n = true) : FSpec Tryz.prog 123 [n.av, .int .i64 x] [] (.tup [.int .i64 (bsI (cmpT x) n.routers), .bool (bsF (cmpT x) n.routers)]) [] := by
  have hb := bsT_spec n.routers x (upT_of (netOk_routers h).1 x)
  refine FSpec.of_flat (q := []) Tryz.func123 (by kernel_rfl) rfl Tryz.ntmps123 Tryz.results123 hP (by kernel_rfl) (by simp) (by first | rfl | simp) ?_
  simp -implicitDefEqProofs
  first | refine CallK.same (hb) rfl rfl ?_ | refine CallQ.same (hb) rfl rfl ?_ | refine CallQG.same _ (hb) rfl ?_ | refine CallG.same _ (hb) rfl ?_ | refine CallK.pv (hb) rfl rfl ?_
  simp -implicitDefEqProofs
@[simp] def webO (n : Net) (k : Nat) : AObj := .box 177 [.im (.sl 4 (n.seats.map Seat.iv)), .row k]
theorem total0_spec (x : Int) (b : Bool) : FSpec Tryz.prog 121 [.im (.sl 4 [[.sc (.int .i64 x), .sc (.bool b), .sc (.slice none 0 0), .sc (.slice none 0 0)]])] [] (.int .i64 0) [] := by
  refine FSpec.of_flat (q := []) Tryz.func121 (by kernel_rfl) rfl Tryz.ntmps121 Tryz.results121 hP (by kernel_rfl) (by simp) (by first | rfl | simp) ?_
  simp
  refine LoopK.plain (fun g : Nat => [(3, .int .i64 0), (6, .im (.sl 4 [[.sc (.int .i64 x), .sc (.bool b), .sc (.slice none 0 0), .sc (.slice none 0 0)]])), (7, .int .i64 1), (8, .int .i64 g)]) (fun g => g ≤ 1)
    (fun g => 1 - g) 0 (Nat.zero_le _) (by simp) ?_
  intro k hk
  by_cases hlt : k = 0
  · subst hlt
    simp
    exact Again.plain 1 (Nat.le_refl _) (by omega) (by simp; decide)
  · have : k = 1 := by omega
    subst this
    simp
theorem wrapS {x : Int} (h0 : -1000000 ≤ x) (h1 : x ≤ 1000000) : IntKind.i64.wrap x = x := wrap64 (by omega) (by omega)
theorem happensF_zero {n : Net} {e : Ev} {hz : Int} (h : (happensF n e hz).2 = 0) : mayS n.seats e hz = 0 ∧ (applyR (mineN n e) e).2 = 0 ∧ ¬ 1024 < many (netAfter n e hz).routers 0 := by
  unfold happensF at h
  split at h
  · rename_i h1; exact absurd h h1
  rename_i h1
  split at h
  · rename_i h2; exact absurd h h2
  rename_i h2
  split at h
  · cases h
  rename_i h3
  exact ⟨by omega, by omega, h3⟩
theorem nextS_zero {l : List Seat} {e : Ev} {hz : Int} (h : mayS l e hz = 0) : nextS l e hz = (putSeat l (seatOf e), 0) := by
  unfold nextS
  rw [if_neg (by omega), if_neg (by omega)]
set_option maxRecDepth 8000 in
set_option maxHeartbeats 4000000 in
theorem happenU_spec (n : Net) (e : Ev) (hz : Int) (hok : netOk n = true) (hsq : 0 ≤ e.seq) (hcase : bsF (cmpT e.router) n.routers = false → ¬ (happensF n e hz).2 = 0) :
    FSpec Tryz.prog 127 [.ptr 0 0, e.av, .int .i64 hz] [webO n 1, .row 85 4 (n.routers.map Router.iv)] (.int .i64 (happensF n e hz).2) [webO (happensF n e hz).1 1, .row 85 4 ((happensF n e hz).1.routers.map Router.iv)] := by
  have h1 := mayO_spec n.seats e hz hsq
  have h2 := placeN_spec n e.router hok
  have h4 := applyRo_spec (mineN n e) e hsq
  have h5 := nextO_spec n.seats e hz hsq
  have hfd := mineN_found (e := e) hok
  have hnw := mineN_new (e := e) hok
  have hset := after_set (e := e) (hz := hz) hok
  have hma := many_after (e := e) (hz := hz) hok
  have hmn := netOk_many hok
  have hns : (netAfter n e hz).seats = (nextS n.seats e hz).1 := rfl
  have hns0 := nextS_zero (l := n.seats) (e := e) (hz := hz)
  have hx : happensF n e hz = (if ¬ mayS n.seats e hz = 0 then (n, mayS n.seats e hz)
  else if ¬ (applyR (mineN n e) e).2 = 0 then (n, (applyR (mineN n e) e).2)
  else if 1024 < many (netAfter n e hz).routers 0 then (n, 8)
  else (netAfter n e hz, 0)) := rfl
  have hev : mayS n.seats e hz = 0 → evOk e = true := fun h => (mayS_zero h).2.1
  have htot := total_spec n.routers
  have htotm := total_spec [mineN n e]
  have hm1 : many [mineN n e] 0 = (many [] (IntKind.i64.wrap (0 + IntKind.i64.wrap ((mineN n e).routes.length + (mineN n e).links.length)))) := rfl
  have hmle : sz (mineN n e) ≤ 1000000 → many [mineN n e] 0 = (sz (mineN n e) : Int) := by
    intro hle
    have := many_sum [mineN n e] 0 (by simp [sumR]; omega)
    simpa [sumR] using this
  clear hm1
  generalize netAfter n e hz = NA at *
  generalize happensF n e hz = RES at *
  generalize applyR (mineN n e) e = AR at *
  generalize nextS n.seats e hz = NX at *
  generalize bsI (cmpT e.router) n.routers = i at *
  refine FSpec.of_o (q := [(1, .m [.p [], .p [], .p [], .p [], .p [], .p [], .p []]), (4, .m [.p [], .p [], .p [], .p [], .p [], .p [], .e [29, 31], .p [], .p [], .p [], .p []]), (12, .m [.p [], .p [], .p [], .p [], .p [], .e [62], .p [0], .e [64], .p [], .p [0, 1], .p [0, 1], .p [0, 1], .p [], .p [0, 1], .p [0, 1], .p [0, 1]]), (15, .m [.p [1, 2], .p [1], .p [1], .p [1], .p [1], .p [1], .p [1], .p [], .e [85], .e [83, 84, 86]]), (16, .m [.p [], .p [], .p [], .p [], .p [], .p [], .p []]), (17, .m [.p [1], .p [], .p [], .p [], .p [], .p [], .p [], .p [], .e [105, 106, 107], .p [], .p [], .p [2], .p [], .p [], .p [], .e [113, 109]])]) Tryz.func127 (by kernel_rfl) rfl Tryz.ntmps127 Tryz.results127 hP (by kernel_rfl) (by simp) (by first | rfl | simp) ?_
  simp -implicitDefEqProofs
  first | refine CallK.same (h1) rfl rfl ?_ | refine CallQ.same (h1) rfl rfl ?_ | refine CallQG.same _ (h1) rfl ?_ | refine CallG.same _ (h1) rfl ?_ | refine CallK.pv (h1) rfl rfl ?_
  simp -implicitDefEqProofs
  refine ⟨fun h => ?_, fun a1 => ?_⟩
  · rw [if_pos h] at hx
    subst hx
    refine EndO.ret [] [0, 1] (.int .i64 (mayS n.seats e hz)) (by simp) (by simp)
  rw [if_neg (by simp [a1])] at hx
  have he := hev a1
  refine CallK.fz [1] h2 rfl (by simp) rfl ?_
  simp -implicitDefEqProofs
  cases hf : bsF (cmpT e.router) n.routers with
  | true =>
    have hg := hfd hf
    obtain ⟨hlt, hge⟩ := List.getElem?_eq_some_iff.1 hg
    simp -implicitDefEqProofs [hlt, hge]
    generalize mineN n e = M at *
    first | refine CallK.same (h4) rfl rfl ?_ | refine CallQ.same (h4) rfl rfl ?_ | refine CallQG.same _ (h4) rfl ?_ | refine CallG.same _ (h4) rfl ?_ | refine CallK.pv (h4) rfl rfl ?_
    simp -implicitDefEqProofs
    refine ⟨fun h => ?_, fun b1 => ?_⟩
    · rw [if_pos h] at hx
      subst hx
      refine EndO.ret [] [0, 1] (.int .i64 AR.2) (by simp) (by simp)
    rw [if_neg (by simp [b1])] at hx
    obtain ⟨c1, c2, c3⟩ := hma a1 b1
    have d1 := hmle (by omega)
    refine CallK.fz [1] htot rfl (by simp) rfl ?_
    simp -implicitDefEqProofs
    refine CallK.fz [5] htotm rfl (by simp) rfl ?_
    have w1 : IntKind.i64.wrap (many n.routers 0 - many [M] 0) = (sumR n.routers : Int) - sz M := by rw [hmn.1, d1]; exact wrapS (by omega) (by omega)
    have w2 : IntKind.i64.wrap ((sumR n.routers : Int) - sz M + AR.1.routes.length) = (sumR n.routers : Int) - sz M + AR.1.routes.length := wrapS (by unfold sz at *; omega) (by unfold sz at *; omega)
    have w3 : IntKind.i64.wrap ((sumR n.routers : Int) - sz M + AR.1.routes.length + AR.1.links.length) = many NA.routers 0 := by rw [wrapS (by unfold sz at *; omega) (by unfold sz at *; omega), c1]; unfold sz; omega
    simp -implicitDefEqProofs [w1, w2, w3]
    refine ⟨fun h => ?_, fun d3 => ?_⟩
    · rw [if_pos h] at hx
      subst hx
      refine EndO.ret [] [0, 1] (.int .i64 8) (by simp) (by simp)
    rw [if_neg (by omega)] at hx
    have hs := hset a1 hf
    have hmod := mod_set Router.iv n.routers AR.1 i (fun x => AR.1.iv ++ x.drop 4) (fun x => by simp)
    rw [← hs] at hmod
    have hn0 := hns0 a1
    subst hn0
    subst hx
    simp -implicitDefEqProofs [hlt]
    first | refine CallK.same (h5) rfl rfl ?_ | refine CallQ.same (h5) rfl rfl ?_ | refine CallQG.same _ (h5) rfl ?_ | refine CallG.same _ (h5) rfl ?_ | refine CallK.pv (h5) rfl rfl ?_
    simp -implicitDefEqProofs
    refine EndO.ret [] [0, 1] (.int .i64 0) (by simp) ?_
    rw [← hmod, hns]
    simp -implicitDefEqProofs
  | false =>
    have hg := hnw he hf
    have hne := hcase hf
    simp -implicitDefEqProofs
    generalize mineN n e = M at *
    refine CallK.v0 h4 rfl (by simp [hg]) rfl ?_
    simp -implicitDefEqProofs
    refine ⟨fun h => ?_, fun b1 => ?_⟩
    · rw [if_pos h] at hx
      subst hx
      refine EndO.ret [] [0, 1] (.int .i64 AR.2) (by simp) (by simp)
    rw [if_neg (by simp [b1])] at hx
    obtain ⟨c1, c2, c3⟩ := hma a1 b1
    have d1 := hmle (by omega)
    have d2 : sz M = 0 := by rw [hg]; rfl
    refine CallK.fz [1] htot rfl (by simp) rfl ?_
    simp -implicitDefEqProofs
    refine CallK.fz [5] (total0_spec e.router false) rfl (by simp) rfl ?_
    have w1 : IntKind.i64.wrap (many n.routers 0) = (sumR n.routers : Int) - sz M := by rw [hmn.1, wrapS (by omega) (by omega)]; omega
    have w2 : IntKind.i64.wrap ((sumR n.routers : Int) - sz M + AR.1.routes.length) = (sumR n.routers : Int) - sz M + AR.1.routes.length := wrapS (by unfold sz at *; omega) (by unfold sz at *; omega)
    have w3 : IntKind.i64.wrap ((sumR n.routers : Int) - sz M + AR.1.routes.length + AR.1.links.length) = many NA.routers 0 := by rw [wrapS (by unfold sz at *; omega) (by unfold sz at *; omega), c1]; unfold sz; omega
    simp -implicitDefEqProofs [w1, w2, w3]
    refine ⟨fun h => ?_, fun d3 => ?_⟩
    · rw [if_pos h] at hx
      subst hx
      refine EndO.ret [] [0, 1] (.int .i64 8) (by simp) (by simp)
    · rw [if_neg (by omega)] at hx
      subst hx
      exact absurd rfl hne
set_option maxRecDepth 8000 in
set_option maxHeartbeats 4000000 in
theorem happenI_spec (n : Net) (e : Ev) (hz : Int) (hok : netOk n = true) (hsq : 0 ≤ e.seq) (h0 : (happensF n e hz).2 = 0) (hf : bsF (cmpT e.router) n.routers = false) :
    FSpec Tryz.prog 127 [.ptr 0 0, e.av, .int .i64 hz] [webO n 1, .row 85 4 (n.routers.map Router.iv)] (.int .i64 (happensF n e hz).2) [webO (happensF n e hz).1 2, .gone, .row 85 4 ((happensF n e hz).1.routers.map Router.iv)] := by
  have h1 := mayO_spec n.seats e hz hsq
  have h2 := placeN_spec n e.router hok
  have h4 := applyRo_spec (mineN n e) e hsq
  have h5 := nextO_spec n.seats e hz hsq
  have hfd := mineN_found (e := e) hok
  have hnw := mineN_new (e := e) hok
  obtain ⟨a1, b1, d3⟩ := happensF_zero h0
  have hins := after_ins (hz := hz) hok a1 hf
  have hil := bsI_le (cmpT e.router) n.routers
  have hma := many_after (e := e) (hz := hz) hok
  have hmn := netOk_many hok
  have hns : (netAfter n e hz).seats = (nextS n.seats e hz).1 := rfl
  have hns0 := nextS_zero (l := n.seats) (e := e) (hz := hz)
  have hx : happensF n e hz = (if ¬ mayS n.seats e hz = 0 then (n, mayS n.seats e hz)
  else if ¬ (applyR (mineN n e) e).2 = 0 then (n, (applyR (mineN n e) e).2)
  else if 1024 < many (netAfter n e hz).routers 0 then (n, 8)
  else (netAfter n e hz, 0)) := rfl
  have hev : mayS n.seats e hz = 0 → evOk e = true := fun h => (mayS_zero h).2.1
  have htot := total_spec n.routers
  have htotm := total_spec [mineN n e]
  have hm1 : many [mineN n e] 0 = (many [] (IntKind.i64.wrap (0 + IntKind.i64.wrap ((mineN n e).routes.length + (mineN n e).links.length)))) := rfl
  have hmle : sz (mineN n e) ≤ 1000000 → many [mineN n e] 0 = (sz (mineN n e) : Int) := by
    intro hle
    have := many_sum [mineN n e] 0 (by simp [sumR]; omega)
    simpa [sumR] using this
  clear hm1
  generalize netAfter n e hz = NA at *
  generalize happensF n e hz = RES at *
  generalize applyR (mineN n e) e = AR at *
  generalize nextS n.seats e hz = NX at *
  generalize bsI (cmpT e.router) n.routers = i at *
  refine FSpec.of_o (q := [(1, .m [.p [], .p [], .p [], .p [], .p [], .p [], .p []]), (4, .m [.p [], .p [], .p [], .p [], .p [], .p [], .e [29, 31], .p [], .p [], .p [], .p []]), (12, .m [.p [], .p [], .p [], .p [], .p [], .e [62], .p [0], .e [64], .p [], .p [0, 1], .p [0, 1], .p [0, 1], .p [], .p [0, 1], .p [0, 1], .p [0, 1]]), (15, .m [.p [1, 2], .p [1], .p [1], .p [1], .p [1], .p [1], .p [1], .p [], .e [85], .e [83, 84, 86]]), (16, .m [.p [], .p [], .p [], .p [], .p [], .p [], .p []]), (17, .m [.p [1], .p [], .p [], .p [], .p [], .p [], .p [], .p [], .e [105, 106, 107], .p [], .p [], .p [2], .p [], .p [], .p [], .e [113, 109]])]) Tryz.func127 (by kernel_rfl) rfl Tryz.ntmps127 Tryz.results127 hP (by kernel_rfl) (by simp) (by first | rfl | simp) ?_
  simp -implicitDefEqProofs
  first | refine CallK.same (h1) rfl rfl ?_ | refine CallQ.same (h1) rfl rfl ?_ | refine CallQG.same _ (h1) rfl ?_ | refine CallG.same _ (h1) rfl ?_ | refine CallK.pv (h1) rfl rfl ?_
  rw [if_neg (by simp [a1])] at hx
  rw [if_neg (by simp [b1]), if_neg d3] at hx
  simp -implicitDefEqProofs [a1]
  have he := hev a1
  refine CallK.fz [1] h2 rfl (by simp) rfl ?_
  simp -implicitDefEqProofs [hf]
  have hg := hnw he hf
  generalize mineN n e = M at *
  refine CallK.v0 h4 rfl (by simp [hg]) rfl ?_
  simp -implicitDefEqProofs [b1]
  obtain ⟨c1, c2, c3⟩ := hma a1 b1
  have d1 := hmle (by omega)
  have d2 : sz M = 0 := by rw [hg]; rfl
  refine CallK.fz [1] htot rfl (by simp) rfl ?_
  simp -implicitDefEqProofs
  refine CallK.fz [5] (total0_spec e.router false) rfl (by simp) rfl ?_
  have w1 : IntKind.i64.wrap (many n.routers 0) = (sumR n.routers : Int) - sz M := by rw [hmn.1, wrapS (by omega) (by omega)]; omega
  have w2 : IntKind.i64.wrap ((sumR n.routers : Int) - sz M + AR.1.routes.length) = (sumR n.routers : Int) - sz M + AR.1.routes.length := wrapS (by unfold sz at *; omega) (by unfold sz at *; omega)
  have w3 : IntKind.i64.wrap ((sumR n.routers : Int) - sz M + AR.1.routes.length + AR.1.links.length) = many NA.routers 0 := by rw [wrapS (by unfold sz at *; omega) (by unfold sz at *; omega), c1]; unfold sz; omega
  simp -implicitDefEqProofs [w1, w2, w3, d3]
  have hgi : NA.routers[i]? = some AR.1 := by rw [hins, List.getElem?_append_right (by simp; omega)]; simp [Nat.min_eq_left hil]
  have hlt : i < NA.routers.length := (List.getElem?_eq_some_iff.1 hgi).1
  have hil2 := netOk_len hok
  have hi := insRouter_spec (n.routers.map Router.iv) AR.1.iv i (by simpa using hil) (by simp; omega)
  have hrow : NA.routers.map Router.iv = (n.routers.map Router.iv).take i ++ AR.1.iv :: (n.routers.map Router.iv).drop i := by
    rw [hins, List.map_append, List.map_cons, List.map_take, List.map_drop]
  rw [← hrow] at hi
  have hmod := mod_same Router.iv NA.routers i AR.1 hgi (fun x => AR.1.iv ++ x.drop 4) (fun x => by simp)
  have hn0 := hns0 a1
  subst hn0
  subst hx
  refine CallO.mk [] [1, 6] hi (by simp) rfl (by simp) (by simp) (by simp) ?_
  simp -implicitDefEqProofs [hlt]
  first | refine CallK.same (h5) rfl rfl ?_ | refine CallQ.same (h5) rfl rfl ?_ | refine CallQG.same _ (h5) rfl ?_ | refine CallG.same _ (h5) rfl ?_ | refine CallK.pv (h5) rfl rfl ?_
  simp -implicitDefEqProofs
  refine EndO.ret [] [0, 1, 7] (.int .i64 0) (by simp) ?_
  simp -implicitDefEqProofs at hmod
  rw [hns]
  simp -implicitDefEqProofs [hmod]
end Go.Am


set_option linter.unusedVariables false
set_option linter.unusedSimpArgs false
set_option pp.deepTerms false
set_option pp.deepTerms.threshold 40
namespace Go.Am
open Go.Proofs

theorem happensF_keep {n : Net} {e : Ev} {hz : Int} (h : ¬ (happensF n e hz).2 = 0) : (happensF n e hz).1 = n := by
  unfold happensF at h ⊢
  repeat' split
  all_goals first
    | rfl
    | skip
  rename_i h1 h2 h3
  rw [if_neg h1, if_neg h2, if_neg h3] at h
  exact absurd rfl h
theorem odd_spec (w : Int) : FSpec Tryz.prog 129 [.int .i64 w] [] (.bool (w == 2 || w == 1)) [] := by
  refine FSpec.of_flat (q := []) Tryz.func129 (by kernel_rfl) rfl Tryz.ntmps129 Tryz.results129 hP (by kernel_rfl) (by simp) (by first | rfl | simp) ?_
  simp -implicitDefEqProofs
theorem sizeNo_spec (n : Net) : FSpec Tryz.prog 90 [n.av] [] (.tup [.int .i64 (sizeN n), .int .i64 (if netOk n then 0 else 2)]) [] := by
  have h1 := checkN_spec n
  have h2 := total_spec n.routers
  refine FSpec.of_z (q := []) Tryz.func90 (by kernel_rfl) rfl Tryz.ntmps90 Tryz.results90 hP (by kernel_rfl) (by simp) (by first | rfl | simp) ?_
  simp -implicitDefEqProofs
  first | refine CallK.same (h1) rfl rfl ?_ | refine CallQ.same (h1) rfl rfl ?_ | refine CallQG.same _ (h1) rfl ?_ | refine CallG.same _ (h1) rfl ?_ | refine CallK.pv (h1) rfl rfl ?_
  simp -implicitDefEqProofs
  unfold sizeN
  cases hn : netOk n with
  | false =>
    simp -implicitDefEqProofs
    refine EndZ.ret [] (.tup [.int .i64 0, .int .i64 2]) (by simp) ?_
    simp
  | true =>
    simp -implicitDefEqProofs
    first | refine CallK.same (h2) rfl rfl ?_ | refine CallQ.same (h2) rfl rfl ?_ | refine CallQG.same _ (h2) rfl ?_ | refine CallG.same _ (h2) rfl ?_ | refine CallK.pv (h2) rfl rfl ?_
    simp -implicitDefEqProofs
    refine EndZ.ret [] (.tup [.int .i64 (many n.routers 0), .int .i64 0]) (by simp) ?_
    simp
set_option maxRecDepth 8000 in
set_option maxHeartbeats 2000000 in
theorem applyNo_spec (n : Net) (e : Ev) (hz : Int) (hsq : 0 ≤ e.seq) :
    FSpec Tryz.prog 92 [n.av, e.av, .int .i64 hz] [] (.tup [(applyN n e hz).1.av, .int .i64 (applyN n e hz).2]) [] := by
  have h1 := checkN_spec n
  refine FSpec.of_z (q := []) Tryz.func92 (by kernel_rfl) rfl Tryz.ntmps92 Tryz.results92 hP (by kernel_rfl) (by simp) (by first | rfl | simp) ?_
  simp -implicitDefEqProofs
  first | refine CallK.same (h1) rfl rfl ?_ | refine CallQ.same (h1) rfl rfl ?_ | refine CallQG.same _ (h1) rfl ?_ | refine CallG.same _ (h1) rfl ?_ | refine CallK.pv (h1) rfl rfl ?_
  simp -implicitDefEqProofs
  unfold applyN
  cases hn : netOk n with
  | false =>
    simp -implicitDefEqProofs
    refine EndZ.ret [] (.tup [.agg [.im (.sc (.slice none 0 0)), .im (.sc (.slice none 0 0))], .int .i64 2]) (by simp) ?_
    simp -implicitDefEqProofs
  | true =>
    have h2 := ownN_spec n hn
    have hU := happenU_spec n e hz hn hsq
    have hI := happenI_spec n e hz hn hsq
    generalize happensF n e hz = RES at *
    have ho := odd_spec RES.2
    simp -implicitDefEqProofs
    refine CallK.outs [] h2 rfl (by simp) (by simp [AV.flat]) ?_
    simp -implicitDefEqProofs
    by_cases hc : bsF (cmpT e.router) n.routers = false ∧ RES.2 = 0
    · refine CallO.mk [] [4, 3] (hI hc.2 hc.1) (by simp) rfl (by simp) (by simp) (by simp) ?_
      simp -implicitDefEqProofs
      first | refine CallK.same (ho) rfl rfl ?_ | refine CallQ.same (ho) rfl rfl ?_ | refine CallQG.same _ (ho) rfl ?_ | refine CallG.same _ (ho) rfl ?_ | refine CallK.pv (ho) rfl rfl ?_
      simp -implicitDefEqProofs [hc.2]
      refine EndZ.ret [5] (.tup [.agg [.im (.sl 4 (RES.1.seats.map Seat.iv)), .row 5], .int .i64 0]) (by simp [hc.2]) ?_
      simp -implicitDefEqProofs [hc.2]
    · refine CallO.mk [] [4, 3] (hU fun hf h0 => hc ⟨hf, h0⟩) (by simp) rfl (by simp) (by simp) (by simp) ?_
      simp -implicitDefEqProofs
      first | refine CallK.same (ho) rfl rfl ?_ | refine CallQ.same (ho) rfl rfl ?_ | refine CallQG.same _ (ho) rfl ?_ | refine CallG.same _ (ho) rfl ?_ | refine CallK.pv (ho) rfl rfl ?_
      simp -implicitDefEqProofs
      refine ⟨fun h => ?_, fun b1 b2 => ?_⟩
      · refine EndZ.ret [] (.tup [.agg [.im (.sc (.slice none 0 0)), .im (.sc (.slice none 0 0))], .int .i64 RES.2]) (by simp) ?_
        simp -implicitDefEqProofs [h]
      · refine EndZ.ret [3] (.tup [.agg [.im (.sl 4 (RES.1.seats.map Seat.iv)), .row 3], .int .i64 RES.2]) (by simp) ?_
        simp -implicitDefEqProofs [b1, b2]
set_option maxRecDepth 8000 in
set_option maxHeartbeats 2000000 in
theorem allNo_spec (n : Net) (l : List Ev) (hz : Int) (hew : ∀ e ∈ l, 0 ≤ e.seq) :
    FSpec Tryz.prog 88 [n.av, .im (.sl 12 (l.map Ev.iv)), .int .i64 hz] [] (.tup [(allN n l hz).1.av, .int .i64 (allN n l hz).2.1, .int .i64 (allN n l hz).2.2]) [] := by
  refine FSpec.bd (enters_of Tryz.func88 (by kernel_rfl) rfl) fun hbd => ?_
  have hl : l.length ≤ 9223372036854775807 := by simp [maxLen] at hbd; exact hbd.2
  clear hbd
  have h1 := checkN_spec n
  refine FSpec.of_z (q := []) Tryz.func88 (by kernel_rfl) rfl Tryz.ntmps88 Tryz.results88 hP (by kernel_rfl) (by simp) (by first | rfl | simp) ?_
  simp -implicitDefEqProofs
  first | refine CallK.same (h1) rfl rfl ?_ | refine CallQ.same (h1) rfl rfl ?_ | refine CallQG.same _ (h1) rfl ?_ | refine CallG.same _ (h1) rfl ?_ | refine CallK.pv (h1) rfl rfl ?_
  simp -implicitDefEqProofs
  unfold allN
  cases hn : netOk n with
  | false =>
    simp -implicitDefEqProofs
    refine EndZ.ret [] (.tup [.agg [.im (.sc (.slice none 0 0)), .im (.sc (.slice none 0 0))], .int .i64 0, .int .i64 2]) (by simp) ?_
    simp -implicitDefEqProofs
  | true =>
    have h2 := ownN_spec n hn
    simp -implicitDefEqProofs
    refine CallK.outs [] h2 rfl (by simp) (by simp [AV.flat]) ?_
    simp -implicitDefEqProofs
    generalize hRES : allGo hz l n 0 = RES at *
    refine LoopK.os (fun g : Nat × Net => [(1, .im (.sl 12 (l.map Ev.iv))), (2, .int .i64 hz), (6, .ptr 0 0), (10, .ptr 1 0), (24, .im (.sl 12 (l.map Ev.iv))), (25, .int .i64 l.length), (26, .int .i64 g.1)])
      (fun g => [.box 25 [.im (.sc (.slice none 0 0)), .im (.sc (.slice none 0 0))], webO g.2 2, .row 85 4 (g.2.routers.map Router.iv)])
      (fun g => g.1 ≤ l.length ∧ netOk g.2 = true ∧ allGo hz (l.drop g.1) g.2 g.1 = RES) (fun g => l.length - g.1) (0, n) [1, 3, 2] ⟨Nat.zero_le _, hn, by simpa using hRES⟩ (by simp) ?_
    rintro ⟨k, N⟩ ⟨hk, hNo, hR⟩
    simp only at hk hNo hR
    by_cases hlt : k < l.length
    · have e1 : IntKind.i64.wrap (k + 1) = (k + 1 : Nat) := wrap64 (by omega) (by omega)
      rw [List.drop_eq_getElem_cons hlt, allGo] at hR
      have hem := hew l[k] (List.getElem_mem _)
      generalize hE : l[k] = E at *
      have hU := happenU_spec N E hz hNo hem
      have hI := happenI_spec N E hz hNo hem
      have hok2 := happensF_ok (e := E) (hz := hz) hNo
      have hkeep := happensF_keep (n := N) (e := E) (hz := hz)
      generalize happensF N E hz = HS at *
      simp -implicitDefEqProofs [hlt, hE]
      by_cases hc : bsF (cmpT E.router) N.routers = false ∧ HS.2 = 0
      · refine CallO.mk [] [1, 2] (hI hc.2 hc.1) (by simp) rfl (by simp) (by simp) (by simp) ?_
        simp -implicitDefEqProofs [hc.2]
        rw [if_pos hc.2] at hR
        refine Again.os (k + 1, HS.1) [0, 1, 4] ⟨hlt, hok2, by simpa using hR⟩ (by show l.length - (k + 1) < l.length - k; omega) ?_
        simp -implicitDefEqProofs [e1]
      · refine CallO.mk [] [1, 2] (hU fun hf h0 => hc ⟨hf, h0⟩) (by simp) rfl (by simp) (by simp) (by simp) ?_
        simp -implicitDefEqProofs
        refine ⟨fun h => ?_, fun h => ?_⟩
        · rw [if_neg h] at hR
          refine EndZ.ret [2] (.tup [.agg [.im (.sl 4 (HS.1.seats.map Seat.iv)), .row 2], .int .i64 k, .int .i64 HS.2]) (by simp) ?_
          simp -implicitDefEqProofs [← hR, hkeep h]
        · rw [if_pos h] at hR
          refine Again.os (k + 1, HS.1) [0, 1, 2] ⟨hlt, hok2, by simpa using hR⟩ (by show l.length - (k + 1) < l.length - k; omega) ?_
          simp -implicitDefEqProofs [e1]
    · have hkk : k = l.length := by omega
      subst hkk
      rw [List.drop_length, allGo] at hR
      simp -implicitDefEqProofs
      refine EndZ.ret [2] (.tup [.agg [.im (.sl 4 (N.seats.map Seat.iv)), .row 2], .int .i64 l.length, .int .i64 0]) (by simp) ?_
      simp -implicitDefEqProofs [← hR]
end Go.Am


set_option linter.unusedVariables false
set_option linter.unusedSimpArgs false
set_option pp.deepTerms false
set_option pp.deepTerms.threshold 40
namespace Go.Am
open Go.Proofs

@[simp] def pastO (p : Past) : AObj := .box 28 [.im (.sl 4 (p.base.seats.map Seat.iv)), .im (.sl 4 (p.base.routers.map Router.iv)), .int .i64 p.hz, .im (.sl 12 (p.evs.map Ev.iv))]
@[simp] def bookO (p : Past) (now : Net) (w : Int) (k : Nat) : AObj := .box 98 [.im (.sl 4 (p.base.seats.map Seat.iv)), .im (.sl 4 (p.base.routers.map Router.iv)), .int .i64 p.hz, .row k, .im (.sl 4 (now.seats.map Seat.iv)), .im (.sl 4 (now.routers.map Router.iv)), .int .i64 w]
@[simp] def evsO (l : List Ev) : AObj := .row 39 12 (l.map Ev.iv)
def lateI : List Seat → Int → Int → Int
  | [], _, _ => -1
  | s :: l, h, k => if h < s.time then k else lateI l h (k + 1)
theorem lateI_any : ∀ (l : List Seat) (h k : Int), 0 ≤ k → (0 ≤ lateI l h k ↔ (l.any fun s => decide (h < s.time)) = true)
  | [], h, k, _ => by simp [lateI]
  | s :: l, h, k, hk => by
    rw [lateI]
    split
    · rename_i h1
      simp [h1, hk]
    · rename_i h1
      rw [lateI_any l h (k + 1) (by omega)]
      simp [h1]
theorem late1_spec (p : Past) (s : Seat) : FSpec Tryz.prog 87 [s.av, .ptr 0 0] [pastO p] (.bool (decide (p.hz < s.time))) [pastO p] := by
  refine FSpec.of_o (q := []) Tryz.func87 (by kernel_rfl) rfl Tryz.ntmps87 Tryz.results87 hP (by kernel_rfl) (by simp) (by first | rfl | simp) ?_
  simp
  refine EndO.ret [] [0] _ rfl ?_
  simp
theorem lateI_spec (p : Past) (l : List Seat) (hl : l.length ≤ 9223372036854775807) :
    FSpec Tryz.prog 125 [.im (.sl 4 (l.map Seat.iv)), .fn 87 [.ptr 0 0]] [pastO p] (.int .i64 (lateI l p.hz 0)) [pastO p] := by
  refine FSpec.of_o (q := []) Tryz.func125 (by kernel_rfl) rfl Tryz.ntmps125 Tryz.results125 hP (by kernel_rfl) (by simp) (by first | rfl | simp) ?_
  simp
  refine LoopK.os (fun k : Nat => [(0, .im (.sl 4 (l.map Seat.iv))), (1, .fn 87 [.ptr 0 0]), (7, .int .i64 l.length), (8, .int .i64 k)])
    (fun _ => [pastO p])
    (fun k => k ≤ l.length ∧ lateI (l.drop k) p.hz k = lateI l p.hz 0) (fun k => l.length - k) 0 [0] ⟨Nat.zero_le _, by simp⟩ (by simp) ?_
  rintro k ⟨hk, hR⟩
  by_cases hlt : k < l.length
  · have e1 : IntKind.i64.wrap (k + 1) = (k + 1 : Nat) := wrap64 (by omega) (by omega)
    rw [List.drop_eq_getElem_cons hlt, lateI] at hR
    simp -implicitDefEqProofs [hlt, e1]
    refine CallO.mk [] [0] (late1_spec p l[k]) (by simp) rfl (by simp) (by simp) (by simp) ?_
    simp -implicitDefEqProofs
    refine ⟨fun h => ?_, fun h => ?_⟩
    · rw [if_pos h] at hR
      refine EndO.ret [] [0] _ rfl ?_
      simp [← hR]
    · rw [if_neg (by omega)] at hR
      refine Again.os (k + 1) [0] ⟨hlt, by simpa using hR⟩ (by omega) ?_
      simp [e1]
  · have hkk : k = l.length := by omega
    subst hkk
    rw [List.drop_length, lateI] at hR
    simp
    refine EndO.ret [] [0] _ rfl ?_
    simp [← hR]
theorem late_spec (p : Past) (l : List Seat) :
    FSpec Tryz.prog 86 [.im (.sl 4 (l.map Seat.iv)), .fn 87 [.ptr 0 0]] [pastO p] (.bool (l.any fun s => decide (p.hz < s.time))) [pastO p] := by
  refine FSpec.bd (enters_of Tryz.func86 (by kernel_rfl) rfl) fun hbd => ?_
  have hl : l.length ≤ 9223372036854775807 := by simp [maxLen] at hbd; exact hbd
  refine FSpec.of_o (q := []) Tryz.func86 (by kernel_rfl) rfl Tryz.ntmps86 Tryz.results86 hP (by kernel_rfl) (by simp) (by first | rfl | simp) ?_
  simp
  refine CallO.mk [] [0] (lateI_spec p l hl) (by simp) rfl (by simp) (by simp) (by simp) ?_
  have hb := lateI_any l p.hz 0 (Int.le_refl _)
  have hb' : decide (0 ≤ lateI l p.hz 0) = (l.any fun s => decide (p.hz < s.time)) := by
    cases h : (l.any fun s => decide (p.hz < s.time)) <;> simp [h] at hb ⊢ <;> omega
  rw [← hb']
  simp -implicitDefEqProofs
  refine EndO.ret [] [0] _ rfl ?_
  simp
theorem grows_spec (e : Ev) : FSpec Tryz.prog 91 [e.av] [] (.bool (e.kind == 3 || e.kind == 5)) [] := by
  refine FSpec.of_flat (q := []) Tryz.func91 (by kernel_rfl) rfl Tryz.ntmps91 Tryz.results91 hP (by kernel_rfl) (by simp) (by first | rfl | simp) ?_
  simp -implicitDefEqProofs
set_option maxRecDepth 8000 in
theorem ownP_spec (p : Past) (h : netOk p.base = true) (hl : p.evs.length ≤ 4096) : FSpec Tryz.prog 89 [p.av] [] (.agg [.im (.sl 4 (p.base.seats.map Seat.iv)), .im (.sl 4 (p.base.routers.map Router.iv)), .int .i64 p.hz, .row 0]) [evsO p.evs] := by
  have h1 := ownN_spec p.base h
  have h2 := cloEvent_spec (p.evs.map Ev.iv) (by simpa using hl)
  refine FSpec.of_o (q := [(1, .m [.p [], .p [], .e [4], .p [0, 2], .p [0, 2], .p [0], .p [0], .e [9]])]) Tryz.func89 (by kernel_rfl) rfl Tryz.ntmps89 Tryz.results89 hP (by kernel_rfl) (by simp) (by first | rfl | simp) ?_
  simp -implicitDefEqProofs
  refine CallK.outs [] h1 rfl (by simp) (by simp [AV.flat]) ?_
  simp -implicitDefEqProofs
  refine CallK.outs [] h2 rfl (by simp) (by simp [AV.flat]) ?_
  simp -implicitDefEqProofs
  refine EndO.ret [2] [3] (.agg [.im (.sl 4 (p.base.seats.map Seat.iv)), .row 2, .int .i64 p.hz, .row 3]) (by simp) ?_
  simp -implicitDefEqProofs
def okP (p : Past) : Bool := decide (-1 ≤ p.hz) && decide (p.hz ≤ 1099511627776) && decide (p.evs.length ≤ 1024) && !(p.base.seats.any fun s => decide (p.hz < s.time)) && decide ((allN p.base p.evs p.hz).2.2 = 0) && decide (weightF p ≤ 1024)
def nowP (p : Past) : Net := (allN p.base p.evs p.hz).1
set_option maxRecDepth 8000 in
set_option maxHeartbeats 2000000 in
theorem openY_spec (p : Past) (hew : ∀ e ∈ p.evs, 0 ≤ e.seq) (hok : okP p = true) :
    FSpec Tryz.prog 50 [p.av] [] (.tup [.ptr 0 0, .int .i64 0]) [bookO p (nowP p) (weightF p) 1, evsO p.evs] := by
  have h1 := late_spec p p.base.seats
  have h2 := allNo_spec p.base p.evs p.hz hew
  have h3 := sizeNo_spec p.base
  have hb := sizeN_bd p.base
  unfold nowP
  unfold okP at hok
  simp only [Bool.and_eq_true, decide_eq_true_eq, Bool.not_eq_true'] at hok
  obtain ⟨⟨⟨⟨⟨k1, k2⟩, k3⟩, k4⟩, k5⟩, k6⟩ := hok
  have hn : netOk p.base = true := by
    cases hn : netOk p.base with
    | true => rfl
    | false => unfold allN at k5; rw [if_pos hn] at k5; cases k5
  have h4 := ownP_spec p hn (by omega)
  rw [k4] at h1
  rw [k5] at h2
  generalize allN p.base p.evs p.hz = RES at *
  have j1 : ¬ p.hz < -1 := by omega
  have j2 : ¬ 1099511627776 < p.hz := by omega
  have j3 : ¬ 1024 < (p.evs.length : Int) := by omega
  refine FSpec.of_o (q := [(8, .m [.p [], .e [42], .p [0]])]) Tryz.func50 (by kernel_rfl) rfl Tryz.ntmps50 Tryz.results50 hP (by kernel_rfl) (by simp) (by first | rfl | simp) ?_
  simp -implicitDefEqProofs [j1, j2, j3]
  refine CallO.mk [] [0] h1 (by simp) rfl (by simp) (by simp) (by simp) ?_
  simp -implicitDefEqProofs
  first | refine CallK.same (h2) rfl rfl ?_ | refine CallQ.same (h2) rfl rfl ?_ | refine CallQG.same _ (h2) rfl ?_ | refine CallG.same _ (h2) rfl ?_ | refine CallK.pv (h2) rfl rfl ?_
  simp -implicitDefEqProofs
  refine CallK.outs [] h4 rfl (by simp) (by simp [AV.flat]) ?_
  simp -implicitDefEqProofs
  first | refine CallK.same (h3) rfl rfl ?_ | refine CallQ.same (h3) rfl rfl ?_ | refine CallQG.same _ (h3) rfl ?_ | refine CallG.same _ (h3) rfl ?_ | refine CallK.pv (h3) rfl rfl ?_
  simp -implicitDefEqProofs
  have hw : weightF p = sizeN p.base + addsE p.evs := rfl
  generalize sizeN p.base = z at *
  refine LoopK.os (fun k : Nat => [(7, .ptr 0 0), (57, .im (.sl 12 (p.evs.map Ev.iv))), (58, .int .i64 p.evs.length), (59, .int .i64 k)])
    (fun k => [bookO p RES.1 (z + addsE (p.evs.take k)) 1, evsO p.evs])
    (fun k => k ≤ p.evs.length) (fun k => p.evs.length - k) 0 [3, 2] (Nat.zero_le _) (by simp [addsE]) ?_
  intro k hk
  by_cases hlt : k < p.evs.length
  · have e1 : IntKind.i64.wrap (k + 1) = (k + 1 : Nat) := wrap64 (by omega) (by omega)
    have ht := addsE_take p.evs k hlt
    have hn := addsE_len (p.evs.take k)
    rw [List.length_take] at hn
    have e2 : IntKind.i64.wrap (z + (addsE (p.evs.take k) : Int) + 1) = z + (addsE (p.evs.take k) : Int) + 1 := wrap64 (by omega) (by omega)
    obtain ⟨E, hE⟩ : ∃ E, p.evs[k] = E := ⟨_, rfl⟩
    rw [hE] at ht
    have hg := grows_spec E
    simp -implicitDefEqProofs [hlt, hE]
    first | refine CallK.same (hg) rfl rfl ?_ | refine CallQ.same (hg) rfl rfl ?_ | refine CallQG.same _ (hg) rfl ?_ | refine CallG.same _ (hg) rfl ?_ | refine CallK.pv (hg) rfl rfl ?_
    simp -implicitDefEqProofs
    refine ⟨fun h => ?_, fun h1 h2 => ?_⟩
    · rw [if_pos h] at ht
      refine Again.os (k + 1) [0, 1] hlt (by omega) ?_
      simp -implicitDefEqProofs [e1, e2, ht]
      omega
    · rw [if_neg (by simp [h1, h2])] at ht
      refine Again.os (k + 1) [0, 1] hlt (by omega) ?_
      simp -implicitDefEqProofs [e1, ht]
  · have hkk : k = p.evs.length := by omega
    subst hkk
    have j4 : ¬ 1024 < z + (addsE p.evs : Int) := by omega
    simp -implicitDefEqProofs [j4]
    refine EndO.ret [] [0, 1] (.tup [.ptr 0 0, .int .i64 0]) (by simp) ?_
    simp -implicitDefEqProofs [hw]
set_option maxRecDepth 8000 in
set_option maxHeartbeats 2000000 in
theorem openN_spec (p : Past) (hew : ∀ e ∈ p.evs, 0 ≤ e.seq) (hok : okP p = false) :
    FSpec Tryz.prog 50 [p.av] [] (.tup [.im (.sc (.pointer none)), .int .i64 2]) [] := by
  have h1 := late_spec p p.base.seats
  have h2 := allNo_spec p.base p.evs p.hz hew
  have h3 := sizeNo_spec p.base
  have hb := sizeN_bd p.base
  unfold okP at hok
  obtain ⟨B, hB⟩ : ∃ B, (p.base.seats.any fun s => decide (p.hz < s.time)) = B := ⟨_, rfl⟩
  rw [hB] at h1 hok
  refine FSpec.of_z (q := [(8, .m [.p [], .e [42], .p [0]])]) Tryz.func50 (by kernel_rfl) rfl Tryz.ntmps50 Tryz.results50 hP (by kernel_rfl) (by simp) (by first | rfl | simp) ?_
  simp -implicitDefEqProofs
  refine ⟨fun h => ?_, fun j1 j2 j3 => ?_⟩
  · refine EndZ.ret [] (.tup [.im (.sc (.pointer none)), .int .i64 2]) (by simp) (by simp)
  refine CallO.mk [] [0] h1 (by simp) rfl (by simp) (by simp) (by simp) ?_
  simp -implicitDefEqProofs
  cases B with
  | true =>
    simp -implicitDefEqProofs
    refine EndZ.ret [] (.tup [.im (.sc (.pointer none)), .int .i64 2]) (by simp) (by simp)
  | false =>
  simp -implicitDefEqProofs
  first | refine CallK.same (h2) rfl rfl ?_ | refine CallQ.same (h2) rfl rfl ?_ | refine CallQG.same _ (h2) rfl ?_ | refine CallG.same _ (h2) rfl ?_ | refine CallK.pv (h2) rfl rfl ?_
  have hn0 : (allN p.base p.evs p.hz).2.2 = 0 → netOk p.base = true := fun h => by
    cases hn : netOk p.base with
    | true => rfl
    | false => unfold allN at h; rw [if_pos hn] at h; cases h
  have hk : (allN p.base p.evs p.hz).2.2 = 0 → ¬ weightF p ≤ 1024 := fun h h' => by
    simp [h, h'] at hok
    omega
  generalize allN p.base p.evs p.hz = RES at *
  simp -implicitDefEqProofs
  refine ⟨fun h => ?_, fun k5 => ?_⟩
  · refine EndZ.ret [] (.tup [.im (.sc (.pointer none)), .int .i64 2]) (by simp) (by simp)
  have hn := hn0 k5
  have k6 := hk k5
  have k3 : p.evs.length ≤ 1024 := by omega
  have h4 := ownP_spec p hn (by omega)
  refine CallK.outs [] h4 rfl (by simp) (by simp [AV.flat]) ?_
  simp -implicitDefEqProofs
  first | refine CallK.same (h3) rfl rfl ?_ | refine CallQ.same (h3) rfl rfl ?_ | refine CallQG.same _ (h3) rfl ?_ | refine CallG.same _ (h3) rfl ?_ | refine CallK.pv (h3) rfl rfl ?_
  simp -implicitDefEqProofs
  have hw : weightF p = sizeN p.base + addsE p.evs := rfl
  generalize sizeN p.base = z at *
  refine LoopK.os (fun k : Nat => [(7, .ptr 0 0), (57, .im (.sl 12 (p.evs.map Ev.iv))), (58, .int .i64 p.evs.length), (59, .int .i64 k)])
    (fun k => [bookO p RES.1 (z + addsE (p.evs.take k)) 1, evsO p.evs])
    (fun k => k ≤ p.evs.length) (fun k => p.evs.length - k) 0 [3, 2] (Nat.zero_le _) (by simp [addsE]) ?_
  intro k hk
  by_cases hlt : k < p.evs.length
  · have e1 : IntKind.i64.wrap (k + 1) = (k + 1 : Nat) := wrap64 (by omega) (by omega)
    have ht := addsE_take p.evs k hlt
    have hn := addsE_len (p.evs.take k)
    rw [List.length_take] at hn
    have e2 : IntKind.i64.wrap (z + (addsE (p.evs.take k) : Int) + 1) = z + (addsE (p.evs.take k) : Int) + 1 := wrap64 (by omega) (by omega)
    obtain ⟨E, hE⟩ : ∃ E, p.evs[k] = E := ⟨_, rfl⟩
    rw [hE] at ht
    have hg := grows_spec E
    simp -implicitDefEqProofs [hlt, hE]
    first | refine CallK.same (hg) rfl rfl ?_ | refine CallQ.same (hg) rfl rfl ?_ | refine CallQG.same _ (hg) rfl ?_ | refine CallG.same _ (hg) rfl ?_ | refine CallK.pv (hg) rfl rfl ?_
    simp -implicitDefEqProofs
    refine ⟨fun h => ?_, fun h1 h2 => ?_⟩
    · rw [if_pos h] at ht
      refine Again.os (k + 1) [0, 1] hlt (by omega) ?_
      simp -implicitDefEqProofs [e1, e2, ht]
      omega
    · rw [if_neg (by simp [h1, h2])] at ht
      refine Again.os (k + 1) [0, 1] hlt (by omega) ?_
      simp -implicitDefEqProofs [e1, ht]
  · have hkk : k = p.evs.length := by omega
    subst hkk
    have j4 : 1024 < z + (addsE p.evs : Int) := by omega
    simp -implicitDefEqProofs [j4]
    refine EndZ.ret [] (.tup [.im (.sc (.pointer none)), .int .i64 2]) (by simp) (by simp)
end Go.Am


set_option linter.unusedVariables false
set_option linter.unusedSimpArgs false
set_option pp.deepTerms false
set_option pp.deepTerms.threshold 40
namespace Go.Am
open Go.Proofs

theorem checkP_spec_ (p : Past) (hew : ∀ e ∈ p.evs, 0 ≤ e.seq) : FSpec Tryz.prog 22 [p.av] [] (.int .i64 (if okP p then 0 else 2)) [] := by
  refine FSpec.of_z (q := []) Tryz.func22 (by kernel_rfl) rfl Tryz.ntmps22 Tryz.results22 hP (by kernel_rfl) (by simp) (by first | rfl | simp) ?_
  simp -implicitDefEqProofs
  cases hok : okP p with
  | true =>
    refine CallK.outs [] (openY_spec p hew hok) rfl (by simp) (by simp [AV.flat]) ?_
    simp -implicitDefEqProofs
    refine EndZ.ret [] (.int .i64 0) (by simp) (by simp)
  | false =>
    first | refine CallK.same (openN_spec p hew hok) rfl rfl ?_ | refine CallQ.same (openN_spec p hew hok) rfl rfl ?_ | refine CallQG.same _ (openN_spec p hew hok) rfl ?_ | refine CallG.same _ (openN_spec p hew hok) rfl ?_ | refine CallK.pv (openN_spec p hew hok) rfl rfl ?_
    simp -implicitDefEqProofs
    refine EndZ.ret [] (.int .i64 2) (by simp) (by simp)
theorem makePo_spec : FSpec Tryz.prog 25 [] [] (⟨⟨[], []⟩, -1, []⟩ : Past).av [] := by
  refine FSpec.of_z (q := []) Tryz.func25 (by kernel_rfl) rfl Tryz.ntmps25 Tryz.results25 hP (by kernel_rfl) (by simp) (by first | rfl | simp) ?_
  simp -implicitDefEqProofs
  refine EndZ.ret [] (.agg [.im (.sc (.slice none 0 0)), .im (.sc (.slice none 0 0)), .int .i64 (-1), .im (.sc (.slice none 0 0))]) (by simp) ?_
  simp -implicitDefEqProofs
theorem weightP_spec (p : Past) (hew : ∀ e ∈ p.evs, 0 ≤ e.seq) : FSpec Tryz.prog 19 [p.av] [] (.tup [.int .i64 (if okP p then weightF p else 0), .int .i64 (if okP p then 0 else 2)]) [] := by
  refine FSpec.of_z (q := []) Tryz.func19 (by kernel_rfl) rfl Tryz.ntmps19 Tryz.results19 hP (by kernel_rfl) (by simp) (by first | rfl | simp) ?_
  simp -implicitDefEqProofs
  cases hok : okP p with
  | true =>
    refine CallK.outs [] (openY_spec p hew hok) rfl (by simp) (by simp [AV.flat]) ?_
    simp -implicitDefEqProofs
    refine EndZ.ret [] (.tup [.int .i64 (weightF p), .int .i64 0]) (by simp) (by simp)
  | false =>
    first | refine CallK.same (openN_spec p hew hok) rfl rfl ?_ | refine CallQ.same (openN_spec p hew hok) rfl rfl ?_ | refine CallQG.same _ (openN_spec p hew hok) rfl ?_ | refine CallG.same _ (openN_spec p hew hok) rfl ?_ | refine CallK.pv (openN_spec p hew hok) rfl rfl ?_
    simp -implicitDefEqProofs
    refine EndZ.ret [] (.tup [.int .i64 0, .int .i64 2]) (by simp) (by simp)
def net0 : Net := ⟨[], []⟩
theorem nowP_spec (p : Past) (hew : ∀ e ∈ p.evs, 0 ≤ e.seq) : FSpec Tryz.prog 29 [p.av] [] (.tup [(if okP p then nowP p else net0).av, .int .i64 (if okP p then 0 else 2)]) [] := by
  refine FSpec.of_z (q := []) Tryz.func29 (by kernel_rfl) rfl Tryz.ntmps29 Tryz.results29 hP (by kernel_rfl) (by simp) (by first | rfl | simp) ?_
  simp -implicitDefEqProofs
  cases hok : okP p with
  | true =>
    refine CallK.outs [] (openY_spec p hew hok) rfl (by simp) (by simp [AV.flat]) ?_
    simp -implicitDefEqProofs
    refine EndZ.ret [] (.tup [(nowP p).av, .int .i64 0]) (by simp) (by simp)
  | false =>
    first | refine CallK.same (openN_spec p hew hok) rfl rfl ?_ | refine CallQ.same (openN_spec p hew hok) rfl rfl ?_ | refine CallQG.same _ (openN_spec p hew hok) rfl ?_ | refine CallG.same _ (openN_spec p hew hok) rfl ?_ | refine CallK.pv (openN_spec p hew hok) rfl rfl ?_
    simp -implicitDefEqProofs
    refine EndZ.ret [] (.tup [.agg [.im (.sc (.slice none 0 0)), .im (.sc (.slice none 0 0))], .int .i64 2]) (by simp) ?_
    simp [net0]
def after (t : Int) (l : List Ev) : List Ev := l.filter fun e => decide (t < e.time)
theorem after_len (t : Int) (l : List Ev) : (after t l).length ≤ l.length := List.length_filter_le _ _
theorem after_take (t : Int) (l : List Ev) (k : Nat) (h : k < l.length) : after t (l.take (k + 1)) = if t < l[k].time then after t (l.take k) ++ [l[k]] else after t (l.take k) := by
  unfold after; rw [filter_take _ _ _ h]; simp
theorem after_nil (t : Int) : after t [] = [] := rfl
set_option maxRecDepth 8000 in
set_option maxHeartbeats 2000000 in
theorem uptoB_spec (p : Past) (now : Net) (w t : Int) (hl : p.evs.length ≤ 4096) :
    FSpec Tryz.prog 97 [.ptr 0 0, .int .i64 t] [bookO p now w 1, evsO p.evs] (.tup [.im (.sl 12 ((upto t p.evs).map Ev.iv)), .row 2]) [bookO p now w 1, evsO p.evs, evsO (after t p.evs)] := by
  refine FSpec.of_o (q := []) Tryz.func97 (by kernel_rfl) rfl Tryz.ntmps97 Tryz.results97 hP (by kernel_rfl) (by simp) (by first | rfl | simp) ?_
  simp -implicitDefEqProofs
  refine LoopK.nil (.sl 6 39 12) ?_
  simp -implicitDefEqProofs
  refine LoopK.nil (.sl 7 39 12) ?_
  simp -implicitDefEqProofs
  refine LoopK.os (fun k : Nat => [(1, .int .i64 t), (6, .row 2), (7, .row 3), (14, .row 1), (15, .int .i64 p.evs.length), (16, .int .i64 k)])
    (fun k => [bookO p now w 1, evsO p.evs, evsO (upto t (p.evs.take k)), evsO (after t (p.evs.take k))])
    (fun k => k ≤ p.evs.length) (fun k => p.evs.length - k) 0 [0, 1, 2, 3] (Nat.zero_le _) (by simp [upto_nil, after_nil]) ?_
  intro k hk
  by_cases hlt : k < p.evs.length
  · have e1 : IntKind.i64.wrap (k + 1) = (k + 1 : Nat) := wrap64 (by omega) (by omega)
    have g1 := upto_take t p.evs k hlt
    have b1 := upto_len t (p.evs.take k)
    have g2 := after_take t p.evs k hlt
    have b2 := after_len t (p.evs.take k)
    rw [List.length_take] at b1 b2
    obtain ⟨E, hE⟩ : ∃ E, p.evs[k] = E := ⟨_, rfl⟩
    rw [hE] at g1 g2
    simp -implicitDefEqProofs [hlt, hE]
    refine ⟨fun h => ⟨⟨by omega, by unfold maxLen; omega⟩, ?_⟩, fun h => ⟨⟨by omega, by unfold maxLen; omega⟩, ?_⟩⟩
    · rw [if_pos h] at g1
      rw [if_neg (by omega)] at g2
      refine Again.os (k + 1) [0, 1, 6, 3] hlt (by omega) ?_
      simp -implicitDefEqProofs [e1, g1, g2]
    · rw [if_neg (by omega)] at g1
      rw [if_pos (by omega)] at g2
      refine Again.os (k + 1) [0, 1, 2, 6] hlt (by omega) ?_
      simp -implicitDefEqProofs [e1, g1, g2]
  · have hkk : k = p.evs.length := by omega
    subst hkk
    simp -implicitDefEqProofs
    refine EndO.ret [2] [0, 1, 3] (.tup [.row 2, .row 3]) (by simp) ?_
    simp -implicitDefEqProofs
def askT (p : Past) (t : Int) : Int := if t < 0 ∨ 1099511627776 < t then 1 else if t < p.hz then 15 else 0
theorem atB_spec (p : Past) (now : Net) (w t : Int) (hb : ¬ askT p t = 0) :
    FSpec Tryz.prog 59 [.ptr 0 0, .int .i64 t] [bookO p now w 1, evsO p.evs] (.tup [.agg [.im (.sc (.slice none 0 0)), .im (.sc (.slice none 0 0))], .im (.sc (.slice none 0 0)), .int .i64 (askT p t)]) [bookO p now w 1, evsO p.evs] := by
  by_cases h1 : t < 0 ∨ 1099511627776 < t
  · have e : askT p t = 1 := by unfold askT; rw [if_pos h1]
    rw [e]
    rcases h1 with h1 | h1
    · refine FSpec.of_o (q := [(6, .m [.p [], .p [], .p [], .p [], .p [], .p [], .p [], .p [], .p [], .p [], .p [], .e [40, 41, 46], .p [], .p [], .p [2], .p [2], .a 0 1, .e [9, 48], .p []])]) Tryz.func59 (by kernel_rfl) rfl Tryz.ntmps59 Tryz.results59 hP (by kernel_rfl) (by simp) (by first | rfl | simp) ?_
      simp -implicitDefEqProofs [h1]
      refine EndO.ret [] [0, 1] (.tup [.agg [.im (.sc (.slice none 0 0)), .im (.sc (.slice none 0 0))], .im (.sc (.slice none 0 0)), .int .i64 1]) (by simp) ?_
      simp -implicitDefEqProofs
    · have h0 : ¬ t < 0 := by omega
      refine FSpec.of_o (q := [(6, .m [.p [], .p [], .p [], .p [], .p [], .p [], .p [], .p [], .p [], .p [], .p [], .e [40, 41, 46], .p [], .p [], .p [2], .p [2], .a 0 1, .e [9, 48], .p []])]) Tryz.func59 (by kernel_rfl) rfl Tryz.ntmps59 Tryz.results59 hP (by kernel_rfl) (by simp) (by first | rfl | simp) ?_
      simp -implicitDefEqProofs [h1, h0]
      refine EndO.ret [] [0, 1] (.tup [.agg [.im (.sc (.slice none 0 0)), .im (.sc (.slice none 0 0))], .im (.sc (.slice none 0 0)), .int .i64 1]) (by simp) ?_
      simp -implicitDefEqProofs
  · by_cases h2 : t < p.hz
    · have e : askT p t = 15 := by unfold askT; rw [if_neg h1, if_pos h2]
      rw [e]
      have h3 : ¬ t < 0 := by omega
      have h4 : ¬ 1099511627776 < t := by omega
      refine FSpec.of_o (q := [(6, .m [.p [], .p [], .p [], .p [], .p [], .p [], .p [], .p [], .p [], .p [], .p [], .e [40, 41, 46], .p [], .p [], .p [2], .p [2], .a 0 1, .e [9, 48], .p []])]) Tryz.func59 (by kernel_rfl) rfl Tryz.ntmps59 Tryz.results59 hP (by kernel_rfl) (by simp) (by first | rfl | simp) ?_
      simp -implicitDefEqProofs [h3, h4, h2]
      refine EndO.ret [] [0, 1] (.tup [.agg [.im (.sc (.slice none 0 0)), .im (.sc (.slice none 0 0))], .im (.sc (.slice none 0 0)), .int .i64 15]) (by simp) ?_
      simp -implicitDefEqProofs
    · refine absurd ?_ hb
      unfold askT
      rw [if_neg h1, if_neg h2]
def thenW (p : Past) (t : Int) : Int := (allN p.base (upto t p.evs) p.hz).2.2
theorem atA_spec (p : Past) (now : Net) (w t : Int) (hew : ∀ e ∈ p.evs, 0 ≤ e.seq) (hl : p.evs.length ≤ 4096) (hb : askT p t = 0) :
    FSpec Tryz.prog 59 [.ptr 0 0, .int .i64 t] [bookO p now w 1, evsO p.evs] (.tup [(thenF p t).av, .row 2, .int .i64 (thenW p t)]) [bookO p now w 1, evsO p.evs, evsO (after t p.evs)] := by
  have h3 := allNo_spec p.base (upto t p.evs) p.hz (fun e he => hew e (List.mem_filter.1 he).1)
  have hu := uptoB_spec p now w t hl
  unfold thenF thenW
  generalize allN p.base (upto t p.evs) p.hz = RES at *
  unfold askT at hb
  by_cases h1 : t < 0 ∨ 1099511627776 < t
  · rw [if_pos h1] at hb
    cases hb
  rw [if_neg h1] at hb
  by_cases h2 : t < p.hz
  · rw [if_pos h2] at hb
    cases hb
  have g3 : ¬ t < 0 := by omega
  have g4 : ¬ 1099511627776 < t := by omega
  refine FSpec.of_o (q := [(6, .m [.p [], .p [], .p [], .p [], .p [], .p [], .p [], .p [], .p [], .p [], .p [], .e [40, 41, 46], .p [], .p [], .p [2], .p [2], .a 0 1, .e [9, 48], .p []])]) Tryz.func59 (by kernel_rfl) rfl Tryz.ntmps59 Tryz.results59 hP (by kernel_rfl) (by simp) (by first | rfl | simp) ?_
  simp -implicitDefEqProofs [g3, g4, h2]
  refine CallO.mk [] [0, 1] hu (by simp) rfl (by simp) (by simp) (by simp) ?_
  simp -implicitDefEqProofs
  first | refine CallK.same (h3) rfl rfl ?_ | refine CallQ.same (h3) rfl rfl ?_ | refine CallQG.same _ (h3) rfl ?_ | refine CallG.same _ (h3) rfl ?_ | refine CallK.pv (h3) rfl rfl ?_
  simp -implicitDefEqProofs
  refine EndO.ret [] [0, 1, 3] (.tup [RES.1.av, .row 3, .int .i64 RES.2.2]) (by simp) ?_
  simp -implicitDefEqProofs
theorem atP_spec (p : Past) (t : Int) (hew : ∀ e ∈ p.evs, 0 ≤ e.seq) : FSpec Tryz.prog 27 [p.av, .int .i64 t] []
    (.tup [(if okP p = true ∧ askT p t = 0 then thenF p t else net0).av, .int .i64 (if okP p then (if askT p t = 0 then thenW p t else askT p t) else 2)]) [] := by
  refine FSpec.of_z (q := []) Tryz.func27 (by kernel_rfl) rfl Tryz.ntmps27 Tryz.results27 hP (by kernel_rfl) (by simp) (by first | rfl | simp) ?_
  simp -implicitDefEqProofs
  cases hok : okP p with
  | true =>
    have hl : p.evs.length ≤ 4096 := by
      unfold okP at hok
      simp only [Bool.and_eq_true, decide_eq_true_eq] at hok
      omega
    refine CallK.outs [] (openY_spec p hew hok) rfl (by simp) (by simp [AV.flat]) ?_
    simp -implicitDefEqProofs
    by_cases hb : askT p t = 0
    · refine CallO.mk [] [2, 3] (atA_spec p (nowP p) (weightF p) t hew hl hb) (by simp) rfl (by simp) (by simp) (by simp) ?_
      simp -implicitDefEqProofs
      refine EndZ.ret [] (.tup [(thenF p t).av, .int .i64 (thenW p t)]) (by simp) (by simp [hb])
    · refine CallO.mk [] [2, 3] (atB_spec p (nowP p) (weightF p) t hb) (by simp) rfl (by simp) (by simp) (by simp) ?_
      simp -implicitDefEqProofs
      refine EndZ.ret [] (.tup [.agg [.im (.sc (.slice none 0 0)), .im (.sc (.slice none 0 0))], .int .i64 (askT p t)]) (by simp) (by simp [hb, net0])
  | false =>
    first | refine CallK.same (openN_spec p hew hok) rfl rfl ?_ | refine CallQ.same (openN_spec p hew hok) rfl rfl ?_ | refine CallQG.same _ (openN_spec p hew hok) rfl ?_ | refine CallG.same _ (openN_spec p hew hok) rfl ?_ | refine CallK.pv (openN_spec p hew hok) rfl rfl ?_
    simp -implicitDefEqProofs
    refine EndZ.ret [] (.tup [.agg [.im (.sc (.slice none 0 0)), .im (.sc (.slice none 0 0))], .int .i64 2]) (by simp) ?_
    simp [net0]
end Go.Am


set_option linter.unusedVariables false
set_option linter.unusedSimpArgs false
set_option pp.deepTerms false
set_option pp.deepTerms.threshold 40
namespace Go.Am
open Go.Proofs

def growsE (e : Ev) : Bool := e.kind == 3 || e.kind == 5
def addE (p : Past) (e : Ev) : Past := ⟨p.base, p.hz, p.evs ++ [e]⟩
theorem weight_add (p : Past) (e : Ev) : weightF (addE p e) = weightF p + if growsE e then 1 else 0 := by
  unfold weightF addE addsE growsE
  simp only [List.countP_append, List.countP_cons, List.countP_nil]
  split <;> omega
def fullP (p : Past) (e : Ev) : Bool := decide ((p.evs.length : Int) = 1024) || (growsE e && decide (weightF p = 1024))
def takeW (p : Past) (e : Ev) : Int := if ¬ (applyN (nowP p) e p.hz).2 = 0 then (applyN (nowP p) e p.hz).2 else if fullP p e then 8 else 0
theorem okP_len {p : Past} (h : okP p = true) : p.evs.length ≤ 1024 := by
  unfold okP at h
  simp only [Bool.and_eq_true, decide_eq_true_eq] at h
  omega
theorem okP_weight {p : Past} (h : okP p = true) : weightF p ≤ 1024 := by
  unfold okP at h
  simp only [Bool.and_eq_true, decide_eq_true_eq] at h
  omega
set_option maxRecDepth 8000 in
set_option maxHeartbeats 2000000 in
theorem takeB0_spec (p : Past) (e : Ev) (hsq : 0 ≤ e.seq) (h0 : ¬ takeW p e = 0) :
    FSpec Tryz.prog 51 [.ptr 0 0, e.av] [bookO p (nowP p) (weightF p) 1, evsO p.evs] (.int .i64 (takeW p e)) [bookO p (nowP p) (weightF p) 1, evsO p.evs] := by
  have h1 := applyNo_spec (nowP p) e p.hz hsq
  have h2 := grows_spec e
  have hW : takeW p e = if ¬ (applyN (nowP p) e p.hz).2 = 0 then (applyN (nowP p) e p.hz).2 else if fullP p e then 8 else 0 := rfl
  have hf : fullP p e = (decide ((p.evs.length : Int) = 1024) || (growsE e && decide (weightF p = 1024))) := rfl
  generalize takeW p e = W at *
  generalize applyN (nowP p) e p.hz = A at *
  rw [show (e.kind == 3 || e.kind == 5) = growsE e from rfl] at h2
  generalize growsE e = G at *
  refine FSpec.of_o (q := [(1, .m [.p [], .p [], .p [], .p [], .p [], .p [], .p [], .p [], .p [], .p [], .e [12, 13, 18], .p [], .p [], .p [2], .a 0 1, .e [5, 20]]), (7, .m [.p [1, 2], .p [1, 2, 3], .p [1, 2], .p [1], .p [1], .p [1], .p [1], .p [1], .p [1], .p [1], .p [1], .p [], .e [62], .e [61, 63], .p [], .p [], .e [66, 53]])]) Tryz.func51 (by kernel_rfl) rfl Tryz.ntmps51 Tryz.results51 hP (by kernel_rfl) (by simp) (by first | rfl | simp) ?_
  simp -implicitDefEqProofs
  first | refine CallK.same (h1) rfl rfl ?_ | refine CallQ.same (h1) rfl rfl ?_ | refine CallQG.same _ (h1) rfl ?_ | refine CallG.same _ (h1) rfl ?_ | refine CallK.pv (h1) rfl rfl ?_
  simp -implicitDefEqProofs
  refine ⟨fun h => ?_, fun b1 => ?_⟩
  · rw [if_pos h] at hW
    subst hW
    refine EndO.ret [] [0, 1] (.int .i64 A.2) (by simp) ?_
    simp -implicitDefEqProofs
  rw [if_neg (by simp [b1])] at hW
  have hfull : fullP p e = true := by
    cases h : fullP p e with
    | true => rfl
    | false => rw [h] at hW; exact absurd hW h0
  rw [if_pos hfull] at hW
  rw [hfull] at hf
  subst hW
  first | refine CallK.same (h2) rfl rfl ?_ | refine CallQ.same (h2) rfl rfl ?_ | refine CallQG.same _ (h2) rfl ?_ | refine CallG.same _ (h2) rfl ?_ | refine CallK.pv (h2) rfl rfl ?_
  simp -implicitDefEqProofs
  refine ⟨fun h => by cases G <;> simp [impB, h], fun h => ?_, fun h => ?_⟩
  · refine EndO.ret [] [0, 1] (.int .i64 8) (by simp) ?_
    simp -implicitDefEqProofs
  · intro h2
    exfalso
    cases G with
    | false => simp [h] at hf
    | true => simp [h, h2 rfl] at hf
set_option maxRecDepth 8000 in
set_option maxHeartbeats 2000000 in
theorem takeB1_spec (p : Past) (e : Ev) (hsq : 0 ≤ e.seq) (hok : okP p = true) (h0 : takeW p e = 0) :
    FSpec Tryz.prog 51 [.ptr 0 0, e.av] [bookO p (nowP p) (weightF p) 1, evsO p.evs] (.int .i64 0) [bookO (addE p e) (applyN (nowP p) e p.hz).1 (weightF (addE p e)) 2, evsO p.evs, evsO (addE p e).evs] := by
  have h1 := applyNo_spec (nowP p) e p.hz hsq
  have h2 := grows_spec e
  have hlen := okP_len hok
  have hwt := okP_weight hok
  have hwa := weight_add p e
  have hW : takeW p e = if ¬ (applyN (nowP p) e p.hz).2 = 0 then (applyN (nowP p) e p.hz).2 else if fullP p e then 8 else 0 := rfl
  have hf : fullP p e = (decide ((p.evs.length : Int) = 1024) || (growsE e && decide (weightF p = 1024))) := rfl
  rw [h0] at hW
  generalize applyN (nowP p) e p.hz = A at *
  rw [show (e.kind == 3 || e.kind == 5) = growsE e from rfl] at h2
  generalize growsE e = G at *
  have b1 : A.2 = 0 := by
    apply Classical.byContradiction
    intro h
    rw [if_pos h] at hW
    exact h hW.symm
  rw [if_neg (by simp [b1])] at hW
  have hfull : fullP p e = false := by
    cases h : fullP p e with
    | false => rfl
    | true => rw [h] at hW; cases hW
  rw [hfull] at hf
  have c1 : ¬ (p.evs.length : Int) = 1024 := by intro h; simp [h] at hf
  refine FSpec.of_o (q := [(1, .m [.p [], .p [], .p [], .p [], .p [], .p [], .p [], .p [], .p [], .p [], .e [12, 13, 18], .p [], .p [], .p [2], .a 0 1, .e [5, 20]]), (7, .m [.p [1, 2], .p [1, 2, 3], .p [1, 2], .p [1], .p [1], .p [1], .p [1], .p [1], .p [1], .p [1], .p [1], .p [], .e [62], .e [61, 63], .p [], .p [], .e [66, 53]])]) Tryz.func51 (by kernel_rfl) rfl Tryz.ntmps51 Tryz.results51 hP (by kernel_rfl) (by simp) (by first | rfl | simp) ?_
  simp -implicitDefEqProofs
  first | refine CallK.same (h1) rfl rfl ?_ | refine CallQ.same (h1) rfl rfl ?_ | refine CallQG.same _ (h1) rfl ?_ | refine CallG.same _ (h1) rfl ?_ | refine CallK.pv (h1) rfl rfl ?_
  simp -implicitDefEqProofs [b1]
  first | refine CallK.same (h2) rfl rfl ?_ | refine CallQ.same (h2) rfl rfl ?_ | refine CallQG.same _ (h2) rfl ?_ | refine CallG.same _ (h2) rfl ?_ | refine CallK.pv (h2) rfl rfl ?_
  simp -implicitDefEqProofs [c1, aCut, rowAt]
  have hsz := sizeN_bd p.base
  have hw0 : 0 ≤ weightF p := by unfold weightF; omega
  have e2 : IntKind.i64.wrap (weightF p + 1) = weightF p + 1 := wrap64 (by omega) (by omega)
  refine ⟨by cases G <;> simp [impB, c1], fun hg hw => ?_, fun hgw => ⟨⟨by unfold maxLen; omega, by omega⟩, ?_⟩⟩
  · exfalso
    simp [c1, hg, hw] at hf
  first | refine CallK.same (h2) rfl rfl ?_ | refine CallQ.same (h2) rfl rfl ?_ | refine CallQG.same _ (h2) rfl ?_ | refine CallG.same _ (h2) rfl ?_ | refine CallK.pv (h2) rfl rfl ?_
  simp -implicitDefEqProofs
  cases G with
  | true =>
    rw [if_pos rfl] at hwa
    simp -implicitDefEqProofs [e2]
    refine EndO.ret [] [0, 1, 5] (.int .i64 0) (by simp) ?_
    rw [hwa]
    simp -implicitDefEqProofs [addE]
    exact List.take_of_length_le (by simp)
  | false =>
    rw [if_neg (by simp)] at hwa
    simp -implicitDefEqProofs
    refine EndO.ret [] [0, 1, 5] (.int .i64 0) (by simp) ?_
    rw [hwa]
    simp -implicitDefEqProofs [addE]
    exact List.take_of_length_le (by simp)
def past0 : Past := ⟨⟨[], []⟩, 0, []⟩
def takeP (p : Past) (e : Ev) : Past × Int := if okP p = false ∨ takeW p e = 2 then (past0, 2) else if takeW p e = 0 then (addE p e, 0) else (p, takeW p e)
theorem takePo_spec (p : Past) (e : Ev) (hew : ∀ e ∈ p.evs, 0 ≤ e.seq) (hsq : 0 ≤ e.seq) : FSpec Tryz.prog 15 [p.av, e.av] [] (.tup [(takeP p e).1.av, .int .i64 (takeP p e).2]) [] := by
  refine FSpec.of_z (q := []) Tryz.func15 (by kernel_rfl) rfl Tryz.ntmps15 Tryz.results15 hP (by kernel_rfl) (by simp) (by first | rfl | simp) ?_
  simp -implicitDefEqProofs
  cases hok : okP p with
  | true =>
    refine CallK.outs [] (openY_spec p hew hok) rfl (by simp) (by simp [AV.flat]) ?_
    simp -implicitDefEqProofs
    by_cases h0 : takeW p e = 0
    · refine CallO.mk [] [3, 4] (takeB1_spec p e hsq hok h0) (by simp) rfl (by simp) (by simp) (by simp) ?_
      simp -implicitDefEqProofs
      have hx : takeP p e = (addE p e, 0) := by unfold takeP; rw [if_neg (by simp [hok, h0]), if_pos h0]
      rw [hx]
      refine EndZ.ret [5] (.tup [.agg [.im (.sl 4 ((addE p e).base.seats.map Seat.iv)), .im (.sl 4 ((addE p e).base.routers.map Router.iv)), .int .i64 (addE p e).hz, .row 5], .int .i64 0]) (by simp) ?_
      simp -implicitDefEqProofs
    · refine CallO.mk [] [3, 4] (takeB0_spec p e hsq h0) (by simp) rfl (by simp) (by simp) (by simp) ?_
      simp -implicitDefEqProofs
      refine ⟨fun h2 => ?_, fun h2 => ?_⟩
      · have hx : takeP p e = (past0, 2) := by unfold takeP; rw [if_pos (.inr h2)]
        rw [hx]
        refine EndZ.ret [] (.tup [.agg [.im (.sc (.slice none 0 0)), .im (.sc (.slice none 0 0)), .int .i64 0, .im (.sc (.slice none 0 0))], .int .i64 2]) (by simp [h2]) ?_
        simp -implicitDefEqProofs [past0]
      · have hx : takeP p e = (p, takeW p e) := by unfold takeP; rw [if_neg (by simp [hok, h2]), if_neg h0]
        rw [hx]
        refine EndZ.ret [4] (.tup [.agg [.im (.sl 4 (p.base.seats.map Seat.iv)), .im (.sl 4 (p.base.routers.map Router.iv)), .int .i64 p.hz, .row 4], .int .i64 (takeW p e)]) (by simp) ?_
        simp -implicitDefEqProofs
  | false =>
    have hx : takeP p e = (past0, 2) := by unfold takeP; rw [if_pos (.inl hok)]
    first | refine CallK.same (openN_spec p hew hok) rfl rfl ?_ | refine CallQ.same (openN_spec p hew hok) rfl rfl ?_ | refine CallQG.same _ (openN_spec p hew hok) rfl ?_ | refine CallG.same _ (openN_spec p hew hok) rfl ?_ | refine CallK.pv (openN_spec p hew hok) rfl rfl ?_
    simp -implicitDefEqProofs
    rw [hx]
    refine EndZ.ret [] (.tup [.agg [.im (.sc (.slice none 0 0)), .im (.sc (.slice none 0 0)), .int .i64 0, .im (.sc (.slice none 0 0))], .int .i64 2]) (by simp) ?_
    simp [past0]
end Go.Am


set_option linter.unusedVariables false
set_option linter.unusedSimpArgs false
set_option pp.deepTerms false
set_option pp.deepTerms.threshold 40
namespace Go.Am
open Go.Proofs

def keepP (p : Past) (t : Int) : Past := ⟨thenF p t, t, after t p.evs⟩
theorem retB0_spec (p : Past) (now : Net) (w t : Int) (hb : ¬ askT p t = 0) :
    FSpec Tryz.prog 55 [.ptr 0 0, .int .i64 t] [bookO p now w 1, evsO p.evs] (.int .i64 (askT p t)) [bookO p now w 1, evsO p.evs] := by
  have h1 := atB_spec p now w t hb
  generalize askT p t = W at *
  refine FSpec.of_o (q := []) Tryz.func55 (by kernel_rfl) rfl Tryz.ntmps55 Tryz.results55 hP (by kernel_rfl) (by simp) (by first | rfl | simp) ?_
  simp -implicitDefEqProofs
  refine CallO.mk [] [0, 1] h1 (by simp) rfl (by simp) (by simp) (by simp) ?_
  simp -implicitDefEqProofs [hb]
  refine EndO.ret [] [0, 1] (.int .i64 W) (by simp) ?_
  simp -implicitDefEqProofs
set_option maxRecDepth 8000 in
set_option maxHeartbeats 2000000 in
theorem retB1_spec (p : Past) (now : Net) (w t : Int) (hew : ∀ e ∈ p.evs, 0 ≤ e.seq) (hl : p.evs.length ≤ 4096) (hb : askT p t = 0) (hT : thenW p t = 0) :
    FSpec Tryz.prog 55 [.ptr 0 0, .int .i64 t] [bookO p now w 1, evsO p.evs] (.int .i64 0) [bookO (keepP p t) now (weightF (keepP p t)) 2, evsO p.evs, evsO (after t p.evs)] := by
  have h1 := atA_spec p now w t hew hl hb
  rw [hT] at h1
  have h3 := sizeNo_spec (thenF p t)
  have hz := sizeN_bd (thenF p t)
  have hal := after_len t p.evs
  have hw : weightF (keepP p t) = sizeN (thenF p t) + addsE (after t p.evs) := rfl
  have hQ : keepP p t = ⟨thenF p t, t, after t p.evs⟩ := rfl
  generalize weightF (keepP p t) = W at *
  generalize keepP p t = Q at *
  generalize thenF p t = N at *
  generalize after t p.evs = L at *
  generalize sizeN N = z at *
  refine FSpec.of_o (q := []) Tryz.func55 (by kernel_rfl) rfl Tryz.ntmps55 Tryz.results55 hP (by kernel_rfl) (by simp) (by first | rfl | simp) ?_
  simp -implicitDefEqProofs
  refine CallO.mk [] [0, 1] h1 (by simp) rfl (by simp) (by simp) (by simp) ?_
  simp -implicitDefEqProofs
  first | refine CallK.same (h3) rfl rfl ?_ | refine CallQ.same (h3) rfl rfl ?_ | refine CallQG.same _ (h3) rfl ?_ | refine CallG.same _ (h3) rfl ?_ | refine CallK.pv (h3) rfl rfl ?_
  simp -implicitDefEqProofs
  refine LoopK.os (fun k : Nat => [(0, .ptr 0 0), (35, .row 2), (36, .int .i64 L.length), (37, .int .i64 k)])
    (fun k => [bookO ⟨N, t, L⟩ now (z + addsE (L.take k)) 2, evsO p.evs, evsO L])
    (fun k => k ≤ L.length) (fun k => L.length - k) 0 [0, 1, 2] (Nat.zero_le _) (by simp [addsE]) ?_
  intro k hk
  by_cases hlt : k < L.length
  · have e1 : IntKind.i64.wrap (k + 1) = (k + 1 : Nat) := wrap64 (by omega) (by omega)
    have ht := addsE_take L k hlt
    have hn := addsE_len (L.take k)
    rw [List.length_take] at hn
    have e2 : IntKind.i64.wrap (z + (addsE (L.take k) : Int) + 1) = z + (addsE (L.take k) : Int) + 1 := wrap64 (by omega) (by omega)
    obtain ⟨E, hE⟩ : ∃ E, L[k] = E := ⟨_, rfl⟩
    rw [hE] at ht
    have hg := grows_spec E
    simp -implicitDefEqProofs [hlt, hE]
    first | refine CallK.same (hg) rfl rfl ?_ | refine CallQ.same (hg) rfl rfl ?_ | refine CallQG.same _ (hg) rfl ?_ | refine CallG.same _ (hg) rfl ?_ | refine CallK.pv (hg) rfl rfl ?_
    simp -implicitDefEqProofs
    refine ⟨fun h => ?_, fun h1 h2 => ?_⟩
    · rw [if_pos h] at ht
      refine Again.os (k + 1) [0, 1, 2] hlt (by omega) ?_
      simp -implicitDefEqProofs [e1, e2, ht]
      omega
    · rw [if_neg (by simp [h1, h2])] at ht
      refine Again.os (k + 1) [0, 1, 2] hlt (by omega) ?_
      simp -implicitDefEqProofs [e1, ht]
  · have hkk : k = L.length := by omega
    subst hkk
    subst hQ
    simp -implicitDefEqProofs
    refine EndO.ret [] [0, 1, 2] (.int .i64 0) (by simp) ?_
    simp -implicitDefEqProofs [hw]
def retainP (p : Past) (t : Int) : Past × Int := if okP p = false then (past0, 2) else if askT p t = 0 then (keepP p t, 0) else (p, askT p t)
theorem retainPo_spec (p : Past) (t : Int) (hew : ∀ e ∈ p.evs, 0 ≤ e.seq) (hT : okP p = true → askT p t = 0 → thenW p t = 0) : FSpec Tryz.prog 17 [p.av, .int .i64 t] [] (.tup [(retainP p t).1.av, .int .i64 (retainP p t).2]) [] := by
  unfold retainP
  refine FSpec.of_z (q := []) Tryz.func17 (by kernel_rfl) rfl Tryz.ntmps17 Tryz.results17 hP (by kernel_rfl) (by simp) (by first | rfl | simp) ?_
  simp -implicitDefEqProofs
  cases hok : okP p with
  | true =>
    have hl := okP_len hok
    refine CallK.outs [] (openY_spec p hew hok) rfl (by simp) (by simp [AV.flat]) ?_
    simp -implicitDefEqProofs
    by_cases hb : askT p t = 0
    · refine CallO.mk [] [2, 3] (retB1_spec p (nowP p) (weightF p) t hew (by omega) hb (hT hok hb)) (by simp) rfl (by simp) (by simp) (by simp) ?_
      simp -implicitDefEqProofs [hb]
      refine EndZ.ret [4] (.tup [.agg [.im (.sl 4 ((keepP p t).base.seats.map Seat.iv)), .im (.sl 4 ((keepP p t).base.routers.map Router.iv)), .int .i64 (keepP p t).hz, .row 4], .int .i64 0]) (by simp) ?_
      simp -implicitDefEqProofs [keepP]
    · refine CallO.mk [] [2, 3] (retB0_spec p (nowP p) (weightF p) t hb) (by simp) rfl (by simp) (by simp) (by simp) ?_
      simp -implicitDefEqProofs [hb]
      refine EndZ.ret [3] (.tup [.agg [.im (.sl 4 (p.base.seats.map Seat.iv)), .im (.sl 4 (p.base.routers.map Router.iv)), .int .i64 p.hz, .row 3], .int .i64 (askT p t)]) (by simp) ?_
      simp -implicitDefEqProofs
  | false =>
    first | refine CallK.same (openN_spec p hew hok) rfl rfl ?_ | refine CallQ.same (openN_spec p hew hok) rfl rfl ?_ | refine CallQG.same _ (openN_spec p hew hok) rfl ?_ | refine CallG.same _ (openN_spec p hew hok) rfl ?_ | refine CallK.pv (openN_spec p hew hok) rfl rfl ?_
    simp -implicitDefEqProofs
    refine EndZ.ret [] (.tup [.agg [.im (.sc (.slice none 0 0)), .im (.sc (.slice none 0 0)), .int .i64 0, .im (.sc (.slice none 0 0))], .int .i64 2]) (by simp) ?_
    simp [past0]
end Go.Am


set_option linter.unusedVariables false
set_option linter.unusedSimpArgs false
set_option pp.deepTerms false
set_option pp.deepTerms.threshold 40
namespace Go.Proofs
def Tryz.sortInt64_ren : Go.Shelf.Ren := ⟨fun | 5 => 99 | 8 => 142 | 7 => 141 | 19 => 186 | 20 => 187 | 10 => 177 | 11 => 178 | 12 => 179 | 13 => 180 | 14 => 181 | 15 => 182 | 16 => 183 | 17 => 184 | 18 => 185 | 30 => 220 | 31 => 221 | 32 => 222 | 33 => 223 | 34 => 224 | 35 => 219 | 40 => 248 | n => n, fun | 23 => 57 | 25 => 2 | 3 => 3 | 32 => 155 | 22 => 57 | 0 => 0 | 44 => 239 | 46 => 30 | 4 => 4 | 36 => 232 | 35 => 231 | 41 => 128 | 5 => 5 | 9 => 9 | 53 => 277 | 57 => 281 | 63 => 297 | 64 => 298 | n => n, fun | n => n⟩
theorem Tryz.sortInt64 : SlLaysM.n5 Tryz.prog Tryz.sortInt64_ren := {
  mixed := by kernel_rfl,
  f5 := ⟨Tryz.f99.name, by decide, Tryz.func99.trans (congrArg some (by kernel_rfl))⟩,
  f7 := ⟨Tryz.f141.name, by decide, Tryz.func141.trans (congrArg some (by kernel_rfl))⟩,
  f8 := Tryz.func142.trans (congrArg some (by kernel_rfl)),
  f10 := ⟨Tryz.f177.name, by decide, Tryz.func177.trans (congrArg some (by kernel_rfl))⟩,
  f11 := ⟨Tryz.f178.name, by decide, Tryz.func178.trans (congrArg some (by kernel_rfl))⟩,
  f12 := ⟨Tryz.f179.name, by decide, Tryz.func179.trans (congrArg some (by kernel_rfl))⟩,
  f13 := ⟨Tryz.f180.name, by decide, Tryz.func180.trans (congrArg some (by kernel_rfl))⟩,
  f14 := ⟨Tryz.f181.name, by decide, Tryz.func181.trans (congrArg some (by kernel_rfl))⟩,
  f15 := ⟨Tryz.f182.name, by decide, Tryz.func182.trans (congrArg some (by kernel_rfl))⟩,
  f16 := ⟨Tryz.f183.name, by decide, Tryz.func183.trans (congrArg some (by kernel_rfl))⟩,
  f17 := ⟨Tryz.f184.name, by decide, Tryz.func184.trans (congrArg some (by kernel_rfl))⟩,
  f18 := ⟨Tryz.f185.name, by decide, Tryz.func185.trans (congrArg some (by kernel_rfl))⟩,
  f19 := Tryz.func186.trans (congrArg some (by kernel_rfl)),
  f20 := Tryz.func187.trans (congrArg some (by kernel_rfl)),
  f30 := ⟨Tryz.f220.name, by decide, Tryz.func220.trans (congrArg some (by kernel_rfl))⟩,
  f31 := Tryz.func221.trans (congrArg some (by kernel_rfl)),
  f32 := Tryz.func222.trans (congrArg some (by kernel_rfl)),
  f33 := ⟨Tryz.f223.name, by decide, Tryz.func223.trans (congrArg some (by kernel_rfl))⟩,
  f34 := ⟨Tryz.f224.name, by decide, Tryz.func224.trans (congrArg some (by kernel_rfl))⟩,
  f35 := ⟨Tryz.f219.name, by decide, Tryz.func219.trans (congrArg some (by kernel_rfl))⟩,
  f40 := ⟨Tryz.f248.name, by decide, Tryz.func248.trans (congrArg some (by kernel_rfl))⟩,
  t0 := Tryz.underlying0,
  a0 := Tryz.isAgg0,
  z0 := Tryz.sizeOf0,
  v0 := Tryz.zeroValue0,
  t3 := Tryz.underlying3,
  a3 := Tryz.isAgg3,
  z3 := Tryz.sizeOf3,
  v3 := Tryz.zeroValue3,
  t4 := Tryz.underlying4,
  a4 := Tryz.isAgg4,
  z4 := Tryz.sizeOf4,
  v4 := Tryz.zeroValue4,
  t5 := Tryz.underlying5,
  a5 := Tryz.isAgg5,
  z5 := Tryz.sizeOf5,
  v5 := Tryz.zeroValue5,
  t9 := Tryz.underlying9,
  a9 := Tryz.isAgg9,
  z9 := Tryz.sizeOf9,
  v9 := Tryz.zeroValue9,
  t22 := Tryz.underlying57,
  a22 := Tryz.isAgg57,
  z22 := Tryz.sizeOf57,
  v22 := Tryz.zeroValue57,
  t23 := Tryz.underlying57,
  a23 := Tryz.isAgg57,
  z23 := Tryz.sizeOf57,
  v23 := Tryz.zeroValue57,
  t25 := Tryz.underlying2,
  a25 := Tryz.isAgg2,
  z25 := Tryz.sizeOf2,
  v25 := Tryz.zeroValue2,
  t32 := Tryz.underlying155,
  a32 := Tryz.isAgg155,
  z32 := Tryz.sizeOf155,
  v32 := Tryz.zeroValue155,
  t35 := Tryz.underlying231,
  a35 := Tryz.isAgg231,
  z35 := Tryz.sizeOf231,
  v35 := Tryz.zeroValue231,
  t36 := Tryz.underlying232,
  a36 := Tryz.isAgg232,
  z36 := Tryz.sizeOf232,
  v36 := Tryz.zeroValue232,
  t41 := Tryz.underlying128,
  a41 := Tryz.isAgg128,
  z41 := Tryz.sizeOf128,
  v41 := Tryz.zeroValue128,
  t44 := Tryz.underlying239,
  a44 := Tryz.isAgg239,
  z44 := Tryz.sizeOf239,
  v44 := Tryz.zeroValue239,
  t46 := Tryz.underlying30,
  a46 := Tryz.isAgg30,
  z46 := Tryz.sizeOf30,
  v46 := Tryz.zeroValue30,
  t53 := Tryz.underlying277,
  a53 := Tryz.isAgg277,
  z53 := Tryz.sizeOf277,
  v53 := Tryz.zeroValue277,
  t57 := Tryz.underlying281,
  a57 := Tryz.isAgg281,
  z57 := Tryz.sizeOf281,
  v57 := Tryz.zeroValue281,
  t63 := Tryz.underlying297,
  a63 := Tryz.isAgg297,
  z63 := Tryz.sizeOf297,
  v63 := Tryz.zeroValue297,
  t64 := Tryz.underlying298,
  a64 := Tryz.isAgg298,
  z64 := Tryz.sizeOf298,
  v64 := Tryz.zeroValue298 }
end Go.Proofs
namespace Go.Am
open Go.Proofs

theorem sort64_spec (l : List Int) (h : l.length ≤ 1000000000) : FSpec Tryz.prog 99 [.row 0] [.row 2 1 (rowN l)] (.tup []) [.row 2 1 (rowN (sortI l))] :=
  sortInts Tryz.sortInt64 2 l (by omega)
def dedup : List Int → List Int
  | [] => []
  | [x] => [x]
  | x :: y :: l => if x = y then dedup (y :: l) else x :: dedup (y :: l)
theorem dedup_snoc : ∀ (l : List Int) (x y : Int), dedup (l ++ [x, y]) = if x = y then dedup (l ++ [x]) else dedup (l ++ [x]) ++ [y]
  | [], x, y => by simp only [List.nil_append, dedup]; split <;> simp [*]
  | [a], x, y => by
    have := dedup_snoc [] x y
    simp only [List.nil_append, List.cons_append, dedup] at this ⊢
    by_cases h1 : x = y <;> by_cases h2 : a = x <;> simp [h1, h2]
  | a :: b :: l, x, y => by
    have := dedup_snoc (b :: l) x y
    simp only [List.cons_append, dedup] at this ⊢
    rw [this]
    by_cases h1 : x = y <;> by_cases h2 : a = b <;> simp [h1, h2]
theorem dedup_take {l : List Int} {j : Nat} (h : j + 1 < l.length) : dedup (l.take (j + 2)) = if l[j + 1] = l[j] then dedup (l.take (j + 1)) else dedup (l.take (j + 1)) ++ [l[j + 1]] := by
  have a1 : l.take (j + 2) = l.take (j + 1) ++ [l[j + 1]] := by rw [show j + 2 = (j + 1) + 1 from rfl, List.take_add_one, List.getElem?_eq_getElem h]; rfl
  have a2 : l.take (j + 1) = l.take j ++ [l[j]] := by rw [List.take_add_one, List.getElem?_eq_getElem (by omega)]; rfl
  have e1 : l.take (j + 2) = l.take j ++ [l[j], l[j + 1]] := by rw [a1, a2, List.append_assoc]; rfl
  have e2 : l.take (j + 1) = l.take j ++ [l[j]] := by
    rw [List.take_add_one, List.getElem?_eq_getElem (by omega)]
    rfl
  rw [e1, e2, dedup_snoc]
  by_cases hh : l[j] = l[j + 1]
  · rw [if_pos hh, if_pos hh.symm]
  · rw [if_neg hh, if_neg (fun x => hh x.symm)]
theorem dedup_small {l : List Int} (h : l.length < 2) : dedup l = l := by
  match l, h with
  | [], _ => rfl
  | [x], _ => rfl
theorem dedup_len : ∀ l : List Int, (dedup l).length ≤ l.length
  | [] => Nat.le_refl _
  | [x] => Nat.le_refl _
  | x :: y :: l => by
    have := dedup_len (y :: l)
    rw [dedup]
    split
    · simp only [List.length_cons] at *; omega
    · simp only [List.length_cons] at *; omega
@[simp] theorem rowN_len (l : List Int) : (rowN l).length = l.length := by simp [rowN]
theorem rowN_get {l : List Int} {i : Nat} (h : i < l.length) : (rowN l)[i]? = some [.sc (.int .i64 l[i])] := by simp [rowN, h]
@[simp] theorem rowN_getElem (l : List Int) (i : Nat) (h : i < (rowN l).length) : (rowN l)[i] = [.sc (.int .i64 (l[i]'(by simpa using h)))] := by simp [rowN]
/-- What the second loop keeps: `C` now stands where `xs` stood. -/
structure Cmpd (xs C : List Int) (k j : Nat) : Prop where
  len : C.length = xs.length
  k1 : 1 ≤ k
  kj : k + 1 ≤ j
  jl : j ≤ xs.length
  pre : C.take k = dedup (xs.take j)
  suf : ∀ i, j ≤ i + 1 → C[i]? = xs[i]?
theorem Cmpd.get {xs C : List Int} {k j i : Nat} (h : Cmpd xs C k j) (hi : j ≤ i + 1) (hx : i < xs.length) (hc : i < C.length) : C[i] = xs[i] := by
  have := h.suf i hi
  rw [List.getElem?_eq_getElem hx, List.getElem?_eq_getElem hc] at this
  exact Option.some.inj this
theorem Cmpd.skip {xs C : List Int} {k j : Nat} (h : Cmpd xs C k (j + 1)) (hj : j + 1 < xs.length) (he : xs[j + 1] = xs[j]) : Cmpd xs C k (j + 2) := by
  obtain ⟨a1, a2, a3, a4, a5, a6⟩ := h
  refine ⟨a1, a2, by omega, by omega, ?_, fun i hi => a6 i (by omega)⟩
  rw [dedup_take hj, if_pos he, a5]
theorem Cmpd.put {xs C : List Int} {k j : Nat} (h : Cmpd xs C k (j + 1)) (hj : j + 1 < xs.length) (he : ¬ xs[j + 1] = xs[j]) : Cmpd xs (C.set k xs[j + 1]) (k + 1) (j + 2) := by
  obtain ⟨a1, a2, a3, a4, a5, a6⟩ := h
  refine ⟨by simpa using a1, by omega, by omega, by omega, ?_, fun i hi => ?_⟩
  · rw [dedup_take hj, if_neg he, ← a5, List.take_add_one, List.getElem?_set_self (by omega), List.take_set_of_le (Nat.le_refl _)]
    rfl
  · rw [List.getElem?_set_ne (by omega)]
    exact a6 i (by omega)
set_option maxRecDepth 8000 in
set_option maxHeartbeats 2000000 in
theorem compact_spec (l : List Int) (hl : l.length ≤ 1000000000) :
    FSpec Tryz.prog 100 [.row 0] [.row 2 1 (rowN l)] (.im (.sl 1 (rowN (dedup l)))) [.gone] := by
  refine FSpec.of_o (q := [(6, .n 9), (11, .n 9)]) Tryz.func100 (by kernel_rfl) rfl Tryz.ntmps100 Tryz.results100 hP (by kernel_rfl) (by simp) (by first | rfl | simp) ?_
  simp -implicitDefEqProofs
  refine ⟨fun h => ?_, fun h2 => ?_⟩
  · refine EndO.ret [0] [0] (.row 0) (by simp) ?_
    simp -implicitDefEqProofs [dedup_small (show l.length < 2 by omega)]
  refine LoopK.os (fun k : Nat => [(0, .row 0), (3, .int .i64 k)])
    (fun _ => [.row 2 1 (rowN l)])
    (fun k => 1 ≤ k ∧ k ≤ l.length ∧ dedup (l.take k) = l.take k) (fun k => l.length - k) 1 [0] ⟨Nat.le_refl _, by omega, dedup_small (by simp; omega)⟩ (by simp) ?_
  rintro k ⟨hk1, hk, hR⟩
  by_cases hlt : k < l.length
  · obtain ⟨j, hj⟩ : ∃ j, k = j + 1 := ⟨k - 1, by omega⟩
    have e1 : IntKind.i64.wrap ((k : Int) - 1) = (j : Nat) := by rw [wrap64 (by omega) (by omega)]; omega
    have e2 : IntKind.i64.wrap ((k : Int) + 1) = (k + 1 : Nat) := wrap64 (by omega) (by omega)
    have hjl : j < l.length := by omega
    have hd : dedup (l.take (k + 1)) = if l[k] = l[j] then dedup (l.take k) else dedup (l.take k) ++ [l[k]] := by
      subst hj; exact dedup_take hlt
    simp -implicitDefEqProofs [hlt, hjl, e1, e2]
    refine ⟨fun heq => ⟨hk, ?_⟩, fun hne => ?_⟩
    · rw [if_pos heq] at hd
      have hd' := hd
      clear e1 e2 hd
      refine LoopK.os (fun g : Nat × Nat × List Int => [(0, .row 0), (3, .int .i64 g.1), (4, .sub 0 1 k (l.length - k)), (5, .int .i64 g.2.1)])
        (fun g => [.row 2 1 (rowN g.2.2)])
        (fun g => Cmpd l g.2.2 g.1 (k + g.2.1) ∧ 1 ≤ g.2.1) (fun g => l.length - (k + g.2.1)) (k, 1, l) [0] ⟨⟨rfl, hk1, Nat.le_refl _, hlt, by rw [hd', hR], fun i _ => rfl⟩, Nat.le_refl _⟩ (by simp) ?_
      rintro ⟨k', k2, C⟩ ⟨hC, hk2⟩
      simp only at hC hk2
      have c0 := hC.len
      have c1 := hC.k1
      have c2 := hC.kj
      have c3 := hC.jl
      by_cases hl2 : k2 < l.length - k
      · obtain ⟨i2, hi2⟩ : ∃ i2, k2 = i2 + 1 := ⟨k2 - 1, by omega⟩
        have e1 : IntKind.i64.wrap ((k2 : Int) - 1) = (i2 : Nat) := by rw [wrap64 (by omega) (by omega)]; omega
        have e2 : IntKind.i64.wrap ((k2 : Int) + 1) = (k2 + 1 : Nat) := wrap64 (by omega) (by omega)
        have e3 : IntKind.i64.wrap ((k' : Int) + 1) = (k' + 1 : Nat) := wrap64 (by omega) (by omega)
        have b1 : k + k2 < C.length := by omega
        have b2 : k + i2 < C.length := by omega
        have b3 : i2 < l.length - k := by omega
        have b4 : k' < C.length := by omega
        simp -implicitDefEqProofs [hl2, e1, e2, e3, b1, b2, b3, b4]
        have g1 := hC.get (i := k + k2) (by omega) (by omega) b1
        have g2 := hC.get (i := k + i2) (by omega) (by omega) b2
        have hmod := mod_set (fun x : Int => [IV.sc (.int .i64 x)]) C C[k + k2] k' (fun x => IV.sc (.int .i64 C[k + k2]) :: x.tail) (fun x => rfl)
        subst hi2
        refine ⟨by omega, fun hne => ⟨by omega, ?_⟩, fun he => ?_⟩
        · refine Again.os (k' + 1, i2 + 1 + 1, C.set k' C[k + (i2 + 1)]) [0] ⟨?_, by show 1 ≤ i2 + 1 + 1; omega⟩ (by show l.length - (k + (i2 + 1 + 1)) < l.length - (k + (i2 + 1)); omega) ?_
          · rw [g1]
            exact Cmpd.put (j := k + i2) hC (by omega) (by rw [← g2]; exact fun h => hne (g1.trans h))
          · show EntO _ _ _ _ _ _ _
            simp -implicitDefEqProofs [e2, e3]
            exact hmod
        · refine Again.os (k', i2 + 1 + 1, C) [0] ⟨?_, by show 1 ≤ i2 + 1 + 1; omega⟩ (by show l.length - (k + (i2 + 1 + 1)) < l.length - (k + (i2 + 1)); omega) ?_
          · exact Cmpd.skip (j := k + i2) hC (by omega) (by rw [← g2, ← he]; exact g1.symm)
          · simp -implicitDefEqProofs [e2]
      · have hkl : k + k2 = l.length := by omega
        have hpre := hC.pre
        rw [hkl, List.take_length] at hpre
        simp -implicitDefEqProofs [hl2]
        refine ⟨by omega, by omega, .inr ⟨by omega, ?_⟩⟩
        refine EndO.ret [1] [0] (.row 1) (by simp) ?_
        have ht : List.take k' (List.take k' (rowN C) ++ (List.replicate (C.length - k') [IV.sc (.int .i64 0)] ++ List.drop (k' + (C.length - k')) (rowN C))) = rowN (dedup l) := by
          rw [List.take_append_of_le_length (by simp; omega), List.take_take, Nat.min_self, ← hpre]
          simp [rowN]
        simp -implicitDefEqProofs [ht]
    · rw [if_neg hne, hR] at hd
      have ht : l.take k ++ [l[k]] = l.take (k + 1) := by rw [List.take_add_one, List.getElem?_eq_getElem hlt]; rfl
      refine Again.os (k + 1) [0] ⟨by omega, hlt, by rw [hd, ht]⟩ (by omega) ?_
      simp -implicitDefEqProofs [e2]
  · have : k = l.length := by omega
    subst this
    rw [List.take_length] at hR
    simp -implicitDefEqProofs
    refine EndO.ret [0] [0] (.row 0) (by simp) ?_
    simp -implicitDefEqProofs [hR]
end Go.Am


set_option linter.unusedVariables false
set_option linter.unusedSimpArgs false
set_option pp.deepTerms false
set_option pp.deepTerms.threshold 40
namespace Go.Am
open Go.Proofs

/-- When something happened within a window. -/
def happT (l : List Ev) (a b : Int) : List Int := (l.filter fun e => decide (a < e.time) && decide (e.time ≤ b)).map Ev.time
def timesF (l : List Ev) (a b : Int) : List Int := dedup (sortI (happT l a b))
theorem happT_take (l : List Ev) (a b : Int) (k : Nat) (h : k < l.length) : happT (l.take (k + 1)) a b = if a < l[k].time ∧ l[k].time ≤ b then happT (l.take k) a b ++ [l[k].time] else happT (l.take k) a b := by
  unfold happT
  rw [filter_take _ _ _ h]
  by_cases hh : a < l[k].time ∧ l[k].time ≤ b
  · rw [if_pos hh, if_pos (by simp [hh]), List.map_append]
    rfl
  · rw [if_neg hh, if_neg (by simp only [Bool.and_eq_true, decide_eq_true_eq]; exact hh)]
theorem happT_len (l : List Ev) (a b : Int) : (happT l a b).length ≤ l.length := by
  unfold happT
  rw [List.length_map]
  exact List.length_filter_le _ _
theorem rowN_app (l : List Int) (x : Int) : rowN (l ++ [x]) = rowN l ++ [[.sc (.int .i64 x)]] := by simp [rowN]
set_option maxRecDepth 8000 in
set_option maxHeartbeats 2000000 in
theorem timesB_spec (p : Past) (now : Net) (w a b : Int) (hl : p.evs.length ≤ 4096) :
    FSpec Tryz.prog 61 [.ptr 0 0, .agg [.int .i64 a, .int .i64 b]] [bookO p now w 1, evsO p.evs] (.im (.sl 1 (rowN (timesF p.evs a b)))) [bookO p now w 1, evsO p.evs] := by
  have hsl := sort64_spec (happT p.evs a b) (by have := happT_len p.evs a b; omega)
  have hcl := compact_spec (sortI (happT p.evs a b)) (by rw [(sortI_perm _).length_eq]; have := happT_len p.evs a b; omega)
  unfold timesF
  refine FSpec.of_o (q := []) Tryz.func61 (by kernel_rfl) rfl Tryz.ntmps61 Tryz.results61 hP (by kernel_rfl) (by simp) (by first | rfl | simp) ?_
  simp -implicitDefEqProofs
  refine LoopK.nil (.sl 5 2 1) ?_
  simp -implicitDefEqProofs
  refine LoopK.os (fun k : Nat => [(3, .ptr 2 0), (5, .row 3), (12, .row 1), (13, .int .i64 p.evs.length), (14, .int .i64 k)])
    (fun k => [bookO p now w 1, evsO p.evs, .box 53 [.int .i64 a, .int .i64 b], .row 2 1 (rowN (happT (p.evs.take k) a b))])
    (fun k => k ≤ p.evs.length) (fun k => p.evs.length - k) 0 [0, 1, 2, 3] (Nat.zero_le _) (by simp [happT, rowN]) ?_
  intro k hk
  by_cases hlt : k < p.evs.length
  · have e1 : IntKind.i64.wrap (k + 1) = (k + 1 : Nat) := wrap64 (by omega) (by omega)
    have g1 := happT_take p.evs a b k hlt
    have b1 := happT_len (p.evs.take k) a b
    rw [List.length_take] at b1
    obtain ⟨E, hE⟩ : ∃ E, p.evs[k] = E := ⟨_, rfl⟩
    rw [hE] at g1
    simp -implicitDefEqProofs [hlt, hE]
    refine ⟨fun h1 h2 => ⟨⟨by omega, by unfold maxLen; omega⟩, ?_⟩, fun h => ?_⟩
    · rw [if_pos ⟨h1, h2⟩] at g1
      refine Again.os (k + 1) [0, 1, 2, 6] hlt (by omega) ?_
      simp -implicitDefEqProofs [e1, g1, rowN_app]
    · rw [if_neg (by intro hh; have := h hh.1; omega)] at g1
      refine Again.os (k + 1) [0, 1, 2, 3] hlt (by omega) ?_
      simp -implicitDefEqProofs [e1, g1]
  · have hkk : k = p.evs.length := by omega
    subst hkk
    simp -implicitDefEqProofs
    refine CallO.mk [] [3] hsl (by simp) rfl (by simp) (by simp) (by simp) ?_
    simp -implicitDefEqProofs
    refine CallO.mk [] [3] hcl (by simp) rfl (by simp) (by simp) (by simp) ?_
    simp -implicitDefEqProofs
    refine EndO.ret [] [0, 1] (.im (.sl 1 (rowN (dedup (sortI (happT p.evs a b)))))) (by simp) ?_
    simp -implicitDefEqProofs
end Go.Am


set_option linter.unusedVariables false
set_option linter.unusedSimpArgs false
set_option pp.deepTerms false
set_option pp.deepTerms.threshold 40
namespace Go.Am
open Go.Proofs

abbrev Ivl := Int × Int
@[simp] def ivI (x : Ivl) : List IV := [.sc (.int .i64 x.1), .sc (.int .i64 x.2)]
theorem nan64_spec (n : Int) : FSpec Tryz.prog 219 [.int .i64 n] [] (.bool false) [] := by
  refine FSpec.of_flat (q := []) Tryz.func219 (by kernel_rfl) rfl Tryz.ntmps219 Tryz.results219 hP (by kernel_rfl) (by simp) (by first | rfl | simp) ?_
  simp
theorem cmp64_spec (m n : Int) : FSpec Tryz.prog 174 [.int .i64 m, .int .i64 n] [] (.int .i64 (cmpI m n)) [] := by
  refine FSpec.of_flat (q := []) Tryz.func174 (by kernel_rfl) rfl Tryz.ntmps174 Tryz.results174 hP (by kernel_rfl) (by simp) (by first | rfl | simp) ?_
  simp
  refine CallK.same (nan64_spec _) rfl rfl ?_
  simp
  refine CallK.same (nan64_spec _) rfl rfl ?_
  simp [cmpI]
  refine ⟨fun h h' => by omega, fun h => ⟨fun h' => ?_, fun h' => ?_⟩⟩
  all_goals (repeat' split) <;> omega
theorem timesI_spec : FSpec Tryz.prog 138 [] [] (.agg [.int .i64 0, .int .i64 1099511627776, .fn 174 [], .fn 175 [], .fn 176 []]) [] := by
  refine FSpec.of_flat (q := []) Tryz.func138 (by kernel_rfl) rfl Tryz.ntmps138 Tryz.results138 hP (by kernel_rfl) (by simp) (by first | rfl | simp) ?_
  simp
theorem nextI_spec (t : Int) : FSpec Tryz.prog 175 [.int .i64 t] [] (.int .i64 (IntKind.i64.wrap (t + 1))) [] := by
  refine FSpec.of_flat (q := []) Tryz.func175 (by kernel_rfl) rfl Tryz.ntmps175 Tryz.results175 hP (by kernel_rfl) (by simp) (by first | rfl | simp) ?_
  simp
def zs2 (n : Nat) : List (List IV) := List.replicate n [.sc (.int .i64 0), .sc (.int .i64 0)]
theorem runsI_spec (l : List Ivl) (hl : l.length ≤ 4096) : FSpec Tryz.prog 140 [.im (.sl 2 (l.map ivI))] [] (.im (.sl 2 (l.map ivI))) [] := by
  refine FSpec.of_z (q := []) Tryz.func140 (by kernel_rfl) rfl Tryz.ntmps140 Tryz.results140 hP (by kernel_rfl) (by simp) (by first | rfl | simp) ?_
  simp -implicitDefEqProofs
  refine ⟨⟨by omega, by unfold maxLen; omega⟩, ?_⟩
  have hput : ∀ k, (h : k < l.length) → (((l.take k).map ivI ++ zs2 (l.length - k)).modify k fun x => ivI l[k] ++ x.drop 2) = (l.take (k + 1)).map ivI ++ zs2 (l.length - (k + 1)) := by
    intro k h
    have hk : ((l.take k).map ivI).length = k := by simp; omega
    obtain ⟨r, hr⟩ : ∃ r, l.length - k = r + 1 := ⟨l.length - k - 1, by omega⟩
    have hr' : l.length - (k + 1) = r := by omega
    have hm := modL ((l.take k).map ivI) [.sc (.int .i64 0), .sc (.int .i64 0)] (zs2 r) (fun x => ivI l[k] ++ x.drop 2)
    rw [hk] at hm
    rw [hr, hr', List.take_add_one, List.getElem?_eq_getElem h]
    unfold zs2 at *
    rw [List.replicate_succ, hm]
    show _ = List.map ivI (l.take k ++ [l[k]]) ++ _
    rw [List.map_append, List.append_assoc]
    rfl
  refine LoopK.os (fun k : Nat => [(3, .row 0), (9, .im (.sl 2 (l.map ivI))), (10, .int .i64 l.length), (11, .int .i64 k)])
    (fun k => [.row 229 2 ((l.take k).map ivI ++ zs2 (l.length - k))])
    (fun k => k ≤ l.length) (fun k => l.length - k) 0 [0] (Nat.zero_le _) (by simp [zs2]) ?_
  intro k hk
  by_cases hlt : k < l.length
  · have e1 : IntKind.i64.wrap (k + 1) = (k + 1 : Nat) := wrap64 (by omega) (by omega)
    have hp := hput k hlt
    obtain ⟨E, hE⟩ : ∃ E, l[k] = E := ⟨_, rfl⟩
    have hg : (l.map ivI)[k]? = some [.sc (.int .i64 E.1), .sc (.int .i64 E.2)] := by simp [hlt, hE, ivI]
    have hkl : k < k + (l.length - k) := by omega
    rw [hE] at hp
    simp -implicitDefEqProofs [hlt, hE, zs2]
    refine ⟨by omega, by omega, ?_⟩
    refine Again.os (k + 1) [0] hlt (by omega) ?_
    simp -implicitDefEqProofs [e1]
    simpa [zs2] using hp
  · have hkk : k = l.length := by omega
    subst hkk
    simp -implicitDefEqProofs
    refine EndZ.ret [0] (.row 0) (by simp) ?_
    simp -implicitDefEqProofs [zs2]
theorem cmpI_pos (a b : Int) : (0 < cmpI a b) = (b < a) := by
  unfold cmpI
  apply propext
  repeat' split
  all_goals omega
theorem cmpI_nn (a b : Int) : (0 ≤ cmpI a b) = (b ≤ a) := by
  unfold cmpI
  apply propext
  repeat' split
  all_goals omega
@[simp] def fieldI : AV := .agg [.int .i64 0, .int .i64 1099511627776, .fn 174 [], .fn 175 [], .fn 176 []]
def aheadI (pv : Option Int) (x : Ivl) : Bool := match pv with
  | none => true
  | some q => decide (¬ q = 1099511627776) && decide (q + 1 < x.1)
def soundI : List Ivl → Option Int → Bool
  | [], _ => true
  | x :: l, pv => (decide (0 ≤ x.1) && decide (x.1 ≤ x.2) && decide (x.2 ≤ 1099511627776)) && aheadI pv x && soundI l (some x.2)
def prevI (l : List Ivl) : Nat → Option Int
  | 0 => none
  | k + 1 => (l[k]?).map Prod.snd
set_option maxRecDepth 8000 in
set_option maxHeartbeats 2000000 in
theorem soundI_spec (l : List Ivl) (hl : l.length ≤ 1000000000) : FSpec Tryz.prog 139 [fieldI, .im (.sl 2 (l.map ivI))] [] (.bool (soundI l none)) [] := by
  refine FSpec.of_flat (q := [(6, .n 26)]) Tryz.func139 (by kernel_rfl) rfl Tryz.ntmps139 Tryz.results139 hP (by kernel_rfl) (by simp) (by first | rfl | simp) ?_
  simp -implicitDefEqProofs
  refine LoopK.os (fun k : Nat => [(1, .im (.sl 2 (l.map ivI))), (2, .ptr 0 0), (7, .im (.sl 2 (l.map ivI))), (8, .int .i64 l.length), (9, .int .i64 k)])
    (fun _ => [.box 192 [.int .i64 0, .int .i64 1099511627776, .fn 174 [], .fn 175 [], .fn 176 []]])
    (fun k => k ≤ l.length ∧ (∀ q, prevI l k = some q → 0 ≤ q ∧ q ≤ 1099511627776) ∧ soundI (l.drop k) (prevI l k) = soundI l none) (fun k => l.length - k) 0 [0] ⟨Nat.zero_le _, by simp [prevI], by simp [prevI]⟩ (by simp) ?_
  rintro k ⟨hk, hq, hR⟩
  by_cases hlt : k < l.length
  · have e1 : IntKind.i64.wrap (k + 1) = (k + 1 : Nat) := wrap64 (by omega) (by omega)
    obtain ⟨E, hE⟩ : ∃ E, l[k] = E := ⟨_, rfl⟩
    have hg : (l.map ivI)[k]? = some [.sc (.int .i64 E.1), .sc (.int .i64 E.2)] := by simp [hlt, hE, ivI]
    have hc1 := cmp64_spec 0 E.1
    have hc2 := cmp64_spec E.1 E.2
    have hc3 := cmp64_spec E.2 1099511627776
    rw [List.drop_eq_getElem_cons hlt, hE, soundI] at hR
    obtain ⟨V, hV⟩ : ∃ V, l[k - 1] = V := ⟨_, rfl⟩
    have hV' : l[k - 1]? = some V := by rw [List.getElem?_eq_getElem (by omega), hV]
    have e0 : (IntKind.i64.wrap ((k : Int) - 1)).toNat = k - 1 := by rw [wrap64 (by omega) (by omega)]; omega
    have e3 : 0 < k → 0 ≤ IntKind.i64.wrap ((k : Int) - 1) ∧ IntKind.i64.wrap ((k : Int) - 1) < l.length := fun h => by rw [wrap64 (by omega) (by omega)]; omega
    have hn := nextI_spec V.2
    have hc4 := cmp64_spec (IntKind.i64.wrap (V.2 + 1)) E.1
    simp -implicitDefEqProofs [hlt, hE]
    first | refine CallK.same (hc1) rfl rfl ?_ | refine CallQ.same (hc1) rfl rfl ?_ | refine CallQG.same _ (hc1) rfl ?_ | refine CallG.same _ (hc1) rfl ?_ | refine CallK.pv (hc1) rfl rfl ?_
    simp -implicitDefEqProofs
    first | refine CallK.same (hc2) rfl rfl ?_ | refine CallQ.same (hc2) rfl rfl ?_ | refine CallQG.same _ (hc2) rfl ?_ | refine CallG.same _ (hc2) rfl ?_ | refine CallK.pv (hc2) rfl rfl ?_
    simp -implicitDefEqProofs
    first | refine CallK.same (hc3) rfl rfl ?_ | refine CallQ.same (hc3) rfl rfl ?_ | refine CallQG.same _ (hc3) rfl ?_ | refine CallG.same _ (hc3) rfl ?_ | refine CallK.pv (hc3) rfl rfl ?_
    simp -implicitDefEqProofs [cmpI_pos, cmpI_nn, e0, hV', hV]
    refine ⟨fun h => ?_, fun d1 d2 d3 => ?_⟩
    · rw [← hR]
      simp
      intro h1 h2 h3
      omega
    refine ⟨e3, ?_⟩
    refine ⟨fun a b => e3 a, ?_⟩
    first | refine CallK.same (hn) rfl rfl ?_ | refine CallQ.same (hn) rfl rfl ?_ | refine CallQG.same _ (hn) rfl ?_ | refine CallG.same _ (hn) rfl ?_ | refine CallK.pv (hn) rfl rfl ?_
    simp -implicitDefEqProofs
    first | refine CallK.same (hc4) rfl rfl ?_ | refine CallQ.same (hc4) rfl rfl ?_ | refine CallQG.same _ (hc4) rfl ?_ | refine CallG.same _ (hc4) rfl ?_ | refine CallK.pv (hc4) rfl rfl ?_
    simp -implicitDefEqProofs [cmpI_nn]
    have hA0 : k = 0 → aheadI (prevI l k) E = true := by intro h; subst h; rfl
    have hA1 : 0 < k → prevI l k = some V.2 := by
      intro h
      obtain ⟨i, rfl⟩ : ∃ i, k = i + 1 := ⟨k - 1, by omega⟩
      rw [show i + 1 - 1 = i from rfl] at hV'
      rw [prevI, hV']
      rfl
    have hA : 0 < k → aheadI (prevI l k) E = (decide (¬ V.2 = 1099511627776) && decide (V.2 + 1 < E.1)) := by intro h; rw [hA1 h]; rfl
    have hw : 0 < k → IntKind.i64.wrap (V.2 + 1) = V.2 + 1 := by
      intro h
      have := hq V.2 (hA1 h)
      exact wrap64 (by omega) (by omega)
    have hd : (decide (0 ≤ E.1) && decide (E.1 ≤ E.2) && decide (E.2 ≤ 1099511627776)) = true := by simp [d1, d2, d3]
    rw [hd, Bool.true_and] at hR
    refine ⟨fun h => by cases (V.snd == 1099511627776) <;> simp [impB, h], fun h h' => ?_, fun h => ?_⟩
    · rw [← hR, hA h]
      rw [hw h] at h'
      simp
      intro h1 h2
      omega
    · have ha : aheadI (prevI l k) E = true := by
        rcases Nat.eq_zero_or_pos k with h0 | h0
        · exact hA0 h0
        · have := h h0
          rw [hw h0] at this
          rw [hA h0]
          simp [this]
      rw [ha, Bool.true_and] at hR
      refine Again.os (k + 1) [0] ⟨hlt, ?_, ?_⟩ (by omega) ?_
      · intro q hq'
        simp only [prevI, List.getElem?_eq_getElem hlt, hE, Option.map_some, Option.some.injEq] at hq'
        omega
      · simp only [prevI, List.getElem?_eq_getElem hlt, hE, Option.map_some]
        exact hR
      · simp -implicitDefEqProofs [e1]
  · have hkk : k = l.length := by omega
    subst hkk
    rw [List.drop_length, soundI] at hR
    simp -implicitDefEqProofs [← hR]
def checkI (l : List Ivl) : Int := if 1024 < l.length ∨ soundI l none = false then 2 else 0
theorem checkI_spec (l : List Ivl) : FSpec Tryz.prog 98 [.im (.sl 2 (l.map ivI))] [] (.int .i64 (checkI l)) [] := by
  unfold checkI
  by_cases h : 1024 < l.length
  · have h' : 1024 < (l.length : Int) := by omega
    rw [if_pos (.inl h)]
    refine FSpec.of_flat (q := []) Tryz.func98 (by kernel_rfl) rfl Tryz.ntmps98 Tryz.results98 hP (by kernel_rfl) (by simp) (by first | rfl | simp) ?_
    simp -implicitDefEqProofs [h']
    refine CallG.off (.int .i64 0) ?_
    simp -implicitDefEqProofs
    refine CallG.off (.int .i64 0) ?_
    simp -implicitDefEqProofs
    refine CallG.off (.int .i64 0) ?_
    simp -implicitDefEqProofs
  · have h' : ¬ 1024 < (l.length : Int) := by omega
    have h1 := timesI_spec
    have h2 := runsI_spec l (by omega)
    have h3 := soundI_spec l (by omega)
    have h4 : (1024 < l.length ∨ soundI l none = false) ↔ soundI l none = false := by simp [h]
    simp only [h4]
    refine FSpec.of_flat (q := []) Tryz.func98 (by kernel_rfl) rfl Tryz.ntmps98 Tryz.results98 hP (by kernel_rfl) (by simp) (by first | rfl | simp) ?_
    simp -implicitDefEqProofs [h']
    refine CallG.on ?_
    first | refine CallK.same (h1) rfl rfl ?_ | refine CallQ.same (h1) rfl rfl ?_ | refine CallQG.same _ (h1) rfl ?_ | refine CallG.same _ (h1) rfl ?_ | refine CallK.pv (h1) rfl rfl ?_
    simp -implicitDefEqProofs
    refine CallG.on ?_
    first | refine CallK.same (h2) rfl rfl ?_ | refine CallQ.same (h2) rfl rfl ?_ | refine CallQG.same _ (h2) rfl ?_ | refine CallG.same _ (h2) rfl ?_ | refine CallK.pv (h2) rfl rfl ?_
    simp -implicitDefEqProofs
    refine CallG.on ?_
    first | refine CallK.same (h3) rfl rfl ?_ | refine CallQ.same (h3) rfl rfl ?_ | refine CallQG.same _ (h3) rfl ?_ | refine CallG.same _ (h3) rfl ?_ | refine CallK.pv (h3) rfl rfl ?_
    simp -implicitDefEqProofs
end Go.Am


set_option linter.unusedVariables false
set_option linter.unusedSimpArgs false
set_option pp.deepTerms false
set_option pp.deepTerms.threshold 40
namespace Go.Am
open Go.Proofs

def oneI (a b : Int) : Bool := decide (0 ≤ a) && decide (a ≤ b) && decide (b ≤ 1099511627776)
def winW (p : Past) (a b : Int) : Int := if oneI a b = false then 1 else if a < p.hz then 15 else 0
theorem window_spec (p : Past) (a b : Int) : FSpec Tryz.prog 60 [p.av, .agg [.int .i64 a, .int .i64 b]] [] (.int .i64 (winW p a b)) [] := by
  have h1 := checkI_spec [(a, b)]
  have hx : checkI [(a, b)] = if oneI a b = false then 2 else 0 := by
    unfold checkI oneI
    simp [soundI, aheadI]
  rw [hx] at h1
  unfold winW
  generalize oneI a b = O at *
  refine FSpec.of_flat (q := []) Tryz.func60 (by kernel_rfl) rfl Tryz.ntmps60 Tryz.results60 hP (by kernel_rfl) (by simp) (by first | rfl | simp) ?_
  simp -implicitDefEqProofs
  refine CallK.fz [2] h1 rfl (by simp) rfl ?_
  cases O with
  | false => simp -implicitDefEqProofs
  | true =>
    simp -implicitDefEqProofs
def timesW (p : Past) (a b : Int) : Int := if okP p = false then 2 else winW p a b
theorem timesPo_spec (p : Past) (a b : Int) (hew : ∀ e ∈ p.evs, 0 ≤ e.seq) : FSpec Tryz.prog 31 [p.av, .agg [.int .i64 a, .int .i64 b]] []
    (.tup [.im (.sl 1 (rowN (if timesW p a b = 0 then timesF p.evs a b else []))), .int .i64 (timesW p a b)]) [] := by
  have h1 := window_spec p a b
  refine FSpec.of_z (q := []) Tryz.func31 (by kernel_rfl) rfl Tryz.ntmps31 Tryz.results31 hP (by kernel_rfl) (by simp) (by first | rfl | simp) ?_
  simp -implicitDefEqProofs
  cases hok : okP p with
  | true =>
    have hl := okP_len hok
    have hW : timesW p a b = winW p a b := by unfold timesW; rw [if_neg (by simp [hok])]
    rw [hW]
    have h2 := timesB_spec p (nowP p) (weightF p) a b (by omega)
    generalize winW p a b = W at *
    refine CallK.outs [] (openY_spec p hew hok) rfl (by simp) (by simp [AV.flat]) ?_
    simp -implicitDefEqProofs
    first | refine CallK.same (h1) rfl rfl ?_ | refine CallQ.same (h1) rfl rfl ?_ | refine CallQG.same _ (h1) rfl ?_ | refine CallG.same _ (h1) rfl ?_ | refine CallK.pv (h1) rfl rfl ?_
    simp -implicitDefEqProofs
    refine ⟨fun h => ?_, fun h => ?_⟩
    · refine EndZ.ret [] (.tup [.im (.sc (.slice none 0 0)), .int .i64 W]) (by simp) ?_
      simp [h, rowN]
    · subst h
      refine CallO.mk [] [2, 3] h2 (by simp) rfl (by simp) (by simp) (by simp) ?_
      simp -implicitDefEqProofs
      refine EndZ.ret [] (.tup [.im (.sl 1 (rowN (timesF p.evs a b))), .int .i64 0]) (by simp) (by simp)
  | false =>
    have hW : timesW p a b = 2 := by unfold timesW; rw [if_pos hok]
    rw [hW]
    first | refine CallK.same (openN_spec p hew hok) rfl rfl ?_ | refine CallQ.same (openN_spec p hew hok) rfl rfl ?_ | refine CallQG.same _ (openN_spec p hew hok) rfl ?_ | refine CallG.same _ (openN_spec p hew hok) rfl ?_ | refine CallK.pv (openN_spec p hew hok) rfl rfl ?_
    simp -implicitDefEqProofs
    refine EndZ.ret [] (.tup [.im (.sc (.slice none 0 0)), .int .i64 2]) (by simp) ?_
    simp [rowN]
end Go.Am


set_option linter.unusedVariables false
set_option linter.unusedSimpArgs false
set_option pp.deepTerms false
set_option pp.deepTerms.threshold 40
namespace Go.Am
open Go.Proofs

def Past.wf (p : Past) : Prop := p.base.wf ∧ ∀ e ∈ p.evs, 0 ≤ e.seq ∧ e.pfx.addr.wf
def earlyP (p : Past) : Bool := decide (p.hz < -1) || decide (1099511627776 < p.hz) || !netOk p.base || decide (1024 < p.evs.length)
def lateP (p : Past) : Bool := p.base.seats.any fun s => decide (p.hz < s.time)
def nowD (p : Past) : Net := if earlyP p || lateP p then net0 else nowP p
theorem allN_ok {n : Net} {l : List Ev} {hz : Int} (h : (allN n l hz).2.2 = 0) : netOk n = true := by
  cases hn : netOk n with
  | true => rfl
  | false => unfold allN at h; rw [if_pos hn] at h; cases h
theorem okP_eq (p : Past) : okP p = (!earlyP p && !lateP p && decide ((allN p.base p.evs p.hz).2.2 = 0) && decide (weightF p ≤ 1024)) := by
  unfold okP earlyP lateP
  by_cases h : (allN p.base p.evs p.hz).2.2 = 0
  · rw [allN_ok h]
    by_cases h1 : p.hz < -1
    · have : ¬ -1 ≤ p.hz := by omega
      simp [h1, this]
    · have h1' : -1 ≤ p.hz := by omega
      by_cases h2 : 1099511627776 < p.hz
      · have : ¬ p.hz ≤ 1099511627776 := by omega
        simp [h2, this]
      · have h2' : p.hz ≤ 1099511627776 := by omega
        by_cases h3 : 1024 < p.evs.length
        · have : ¬ p.evs.length ≤ 1024 := by omega
          simp [h3, this]
        · have h3' : p.evs.length ≤ 1024 := by omega
          simp [h1, h2, h3, h1', h2', h3', h]
  · simp [h]
set_option maxRecDepth 8000 in
set_option maxHeartbeats 4000000 in
theorem nowr_spec (p : Past) (hw : p.wf) : FSpec Tryz.prog 52 [p.av] [] (.tup [(nowD p).av, .bool (okP p)]) [] := by
  have h1 := checkNr_spec p.base hw.1
  have h2 := allNr_spec p.base p.evs p.hz hw.1 (fun e he => (hw.2 e he).2)
  have hok := okP_eq p
  have hN : nowD p = if earlyP p || lateP p then net0 else nowP p := rfl
  unfold nowP at hN
  generalize nowD p = N at *
  generalize okP p = OK at *
  refine FSpec.of_z (q := [(10, .m [.p [], .p [], .p [], .p [], .p [], .p [], .p [1], .p [1], .e [2, 56]])]) Tryz.func52 (by kernel_rfl) rfl Tryz.ntmps52 Tryz.results52 hP (by kernel_rfl) (by simp) (by first | rfl | simp) ?_
  simp -implicitDefEqProofs
  first | refine CallK.same (h1) rfl rfl ?_ | refine CallQ.same (h1) rfl rfl ?_ | refine CallQG.same _ (h1) rfl ?_ | refine CallG.same _ (h1) rfl ?_ | refine CallK.pv (h1) rfl rfl ?_
  simp -implicitDefEqProofs
  refine ⟨fun h => ?_, fun b1 b2 b3 b4 => ?_⟩
  · have he : earlyP p = true := by
      unfold earlyP
      rcases h with ((h | h) | h) | h
      · simp [h]
      · simp [h]
      · simp [h]
      · have : 1024 < p.evs.length := by omega
        simp [this]
    rw [he] at hok hN
    simp at hok hN
    subst hok
    subst hN
    refine EndZ.ret [] (.tup [.agg [.im (.sc (.slice none 0 0)), .im (.sc (.slice none 0 0))], .bool false]) (by simp) ?_
    simp [net0]
  have he : earlyP p = false := by
    unfold earlyP
    have e1 : ¬ p.hz < -1 := by omega
    have e2 : ¬ 1099511627776 < p.hz := by omega
    have e3 : ¬ 1024 < p.evs.length := by omega
    simp [e1, e2, e3, b3]
  rw [he] at hok hN
  simp only [Bool.not_false, Bool.true_and, Bool.false_or] at hok hN
  have hsl := netOk_seats b3
  have hwt := weightr_spec p hw.1 (by omega)
  refine LoopK.os (fun k : Nat => [(1, .ptr 0 0), (2, .ptr 1 0), (32, .im (.sl 4 (p.base.seats.map Seat.iv))), (33, .int .i64 p.base.seats.length), (34, .int .i64 k)])
    (fun _ => [pastO p, .box 25 [.im (.sc (.slice none 0 0)), .im (.sc (.slice none 0 0))]])
    (fun k => k ≤ p.base.seats.length ∧ ((p.base.seats.drop k).any fun s => decide (p.hz < s.time)) = lateP p) (fun k => p.base.seats.length - k) 0 [0, 1] ⟨Nat.zero_le _, by simp [lateP]⟩ (by simp) ?_
  rintro k ⟨hk, hR⟩
  by_cases hlt : k < p.base.seats.length
  · have e1 : IntKind.i64.wrap (k + 1) = (k + 1 : Nat) := wrap64 (by omega) (by omega)
    obtain ⟨E, hE⟩ : ∃ E, p.base.seats[k] = E := ⟨_, rfl⟩
    rw [List.drop_eq_getElem_cons hlt, List.any_cons, hE] at hR
    simp -implicitDefEqProofs [hlt, hE]
    refine ⟨fun h => ?_, fun h => ?_⟩
    · have hl : lateP p = true := by rw [← hR]; simp [h]
      rw [hl] at hok hN
      simp at hok hN
      subst hok
      subst hN
      refine EndZ.ret [] (.tup [.agg [.im (.sc (.slice none 0 0)), .im (.sc (.slice none 0 0))], .bool false]) (by simp) ?_
      simp [net0]
    · have hd : decide (p.hz < E.time) = false := by simp; omega
      rw [hd, Bool.false_or] at hR
      refine Again.os (k + 1) [0, 1] ⟨hlt, hR⟩ (by omega) ?_
      simp -implicitDefEqProofs [e1]
  · have hkk : k = p.base.seats.length := by omega
    subst hkk
    have hl : lateP p = false := by rw [← hR]; simp
    rw [hl] at hok hN
    simp only [Bool.not_false, Bool.true_and, Bool.false_eq_true, if_false] at hok hN
    generalize allN p.base p.evs p.hz = RES at *
    subst hN
    simp -implicitDefEqProofs
    first | refine CallK.same (h2) rfl rfl ?_ | refine CallQ.same (h2) rfl rfl ?_ | refine CallQG.same _ (h2) rfl ?_ | refine CallG.same _ (h2) rfl ?_ | refine CallK.pv (h2) rfl rfl ?_
    simp -implicitDefEqProofs
    first | refine CallK.same (hwt) rfl rfl ?_ | refine CallQ.same (hwt) rfl rfl ?_ | refine CallQG.same _ (hwt) rfl ?_ | refine CallG.same _ (hwt) rfl ?_ | refine CallK.pv (hwt) rfl rfl ?_
    simp -implicitDefEqProofs
    have hok' : OK = (RES.2.2 == 0 && decide (weightF p ≤ 1024)) := hok
    subst hok'
    refine EndZ.ret [] (.tup [RES.1.av, .bool (RES.2.2 == 0 && decide (weightF p ≤ 1024))]) (by simp) ?_
    simp
end Go.Am


set_option linter.unusedVariables false
set_option linter.unusedSimpArgs false
set_option pp.deepTerms false
set_option pp.deepTerms.threshold 40
namespace Go.Am
open Go.Proofs

theorem checkPr21_spec (p : Past) (hw : p.wf) : FSpec Tryz.prog 23 [p.av] [] (.int .i64 (if okP p then 0 else 2)) [] := by
  have h1 := nowr_spec p hw
  generalize nowD p = N at *
  refine FSpec.of_z (q := []) Tryz.func23 (by kernel_rfl) rfl Tryz.ntmps23 Tryz.results23 hP (by kernel_rfl) (by simp) (by first | rfl | simp) ?_
  simp -implicitDefEqProofs
  first | refine CallK.same (h1) rfl rfl ?_ | refine CallQ.same (h1) rfl rfl ?_ | refine CallQG.same _ (h1) rfl ?_ | refine CallG.same _ (h1) rfl ?_ | refine CallK.pv (h1) rfl rfl ?_
  simp -implicitDefEqProofs
  cases hok : okP p with
  | true =>
    simp -implicitDefEqProofs
    refine EndZ.ret [] (.int .i64 0) (by simp) (by simp)
  | false =>
    simp -implicitDefEqProofs
    refine EndZ.ret [] (.int .i64 2) (by simp) (by simp)
theorem weightPr_spec (p : Past) (hw : p.wf) : FSpec Tryz.prog 20 [p.av] [] (.tup [.int .i64 (if okP p then weightF p else 0), .int .i64 (if okP p then 0 else 2)]) [] := by
  have h1 := checkPr21_spec p hw
  refine FSpec.of_flat (q := []) Tryz.func20 (by kernel_rfl) rfl Tryz.ntmps20 Tryz.results20 hP (by kernel_rfl) (by simp) (by first | rfl | simp) ?_
  simp -implicitDefEqProofs
  first | refine CallK.same (h1) rfl rfl ?_ | refine CallQ.same (h1) rfl rfl ?_ | refine CallQG.same _ (h1) rfl ?_ | refine CallG.same _ (h1) rfl ?_ | refine CallK.pv (h1) rfl rfl ?_
  simp -implicitDefEqProofs
  cases hok : okP p with
  | true =>
    have h2 := weightr_spec p hw.1 (by have := okP_len hok; omega)
    simp -implicitDefEqProofs
    first | refine CallK.same (h2) rfl rfl ?_ | refine CallQ.same (h2) rfl rfl ?_ | refine CallQG.same _ (h2) rfl ?_ | refine CallG.same _ (h2) rfl ?_ | refine CallK.pv (h2) rfl rfl ?_
    simp -implicitDefEqProofs
  | false =>
    simp -implicitDefEqProofs
theorem askT_eq (p : Past) (t : Int) : (if t < 0 ∨ 1099511627776 < t then 1 else if t < p.hz then 15 else 0) = askT p t := rfl
end Go.Am


set_option linter.unusedVariables false
set_option linter.unusedSimpArgs false
set_option pp.deepTerms false
set_option pp.deepTerms.threshold 40
namespace Go.Am
open Go.Proofs

theorem find_put {α : Type} (key : α → Int) (l : List α) (s : α) (r : Int) :
    (l.filter (fun a => decide (key a < key s)) ++ [s] ++ l.filter (fun a => decide (key s < key a))).find? (fun a => decide (key a = r)) = if r = key s then some s else l.find? fun a => decide (key a = r) := by
  rw [List.find?_append, List.find?_append, List.find?_filter, List.find?_filter]
  by_cases h : r = key s
  · subst h
    have h1 : (l.find? fun a => decide (decide (key a < key s) = true ∧ decide (key a = key s) = true)) = none := by
      rw [List.find?_eq_none]
      intro x _
      simp
      omega
    rw [if_pos rfl, h1]
    simp
  · rw [if_neg h]
    have hs : [s].find? (fun a => decide (key a = r)) = none := by
      rw [List.find?_eq_none]
      intro x hx
      rw [List.mem_singleton] at hx
      subst hx
      simp
      omega
    rw [hs]
    rcases Int.lt_or_gt_of_ne h with h1 | h1
    · have e1 : (l.find? fun a => decide (decide (key a < key s) = true ∧ decide (key a = r) = true)) = l.find? fun a => decide (key a = r) := by
        congr
        funext a
        by_cases h2 : key a = r
        · simp [h2, h1]
        · simp [h2]
      have e2 : (l.find? fun a => decide (decide (key s < key a) = true ∧ decide (key a = r) = true)) = none := by
        rw [List.find?_eq_none]
        intro x _
        simp
        omega
      rw [e1, e2]
      simp
    · have e1 : (l.find? fun a => decide (decide (key s < key a) = true ∧ decide (key a = r) = true)) = l.find? fun a => decide (key a = r) := by
        congr
        funext a
        by_cases h2 : key a = r
        · simp [h2, h1]
        · simp [h2]
      have e2 : (l.find? fun a => decide (decide (key a < key s) = true ∧ decide (key a = r) = true)) = none := by
        rw [List.find?_eq_none]
        intro x _
        simp
        omega
      rw [e1, e2]
      simp
theorem seatF_find : ∀ (l : List Seat) (r : Int), seatF l r = l.find? fun s => decide (s.router = r)
  | [], r => rfl
  | s :: l, r => by
    rw [seatF, List.find?_cons]
    by_cases h : s.router = r
    · simp [h]
    · simp [h, seatF_find l r]
theorem seatF_put (l : List Seat) (e : Ev) (r : Int) : seatF (putSeat l (seatOf e)) r = if r = e.router then some (seatOf e) else seatF l r := by
  rw [seatF_find, seatF_find]
  exact find_put Seat.router l (seatOf e) r
theorem routerF_after {n : Net} {e : Ev} {hz : Int} (hok : netOk n = true) (h : mayS n.seats e hz = 0) (h2 : (applyR (mineN n e) e).2 = 0) (r : Int) :
    routerF (netAfter n e hz).routers r = if r = e.router then some (applyR (mineN n e) e).1 else routerF n.routers r := by
  obtain ⟨g1, g2, g3, g4, g5⟩ := mayS_zero h
  obtain ⟨m1, m2⟩ := mineN_ok hok g2
  obtain ⟨a1, a2, a3⟩ := applyR_ok m1 g2 m2 h2
  rw [netAfter_routers hok h]
  simp only [cmpT_neg, cmpT_gt]
  have := find_put Router.id n.routers (applyR (mineN n e) e).1 r
  rw [a2] at this
  exact this
theorem happensF_get {n : Net} {e : Ev} {hz : Int} (hok : netOk n = true) (h : (happensF n e hz).2 = 0) :
    (∀ r, seatF (happensF n e hz).1.seats r = if r = e.router then some (seatOf e) else seatF n.seats r) ∧ ∀ r, routerF (happensF n e hz).1.routers r = if r = e.router then some (applyR (mineN n e) e).1 else routerF n.routers r := by
  obtain ⟨h1, h2, h3⟩ := happensF_zero h
  have hx : happensF n e hz = (netAfter n e hz, 0) := by
    unfold happensF
    rw [if_neg (by omega), if_neg (by omega), if_neg h3]
  rw [hx]
  refine ⟨fun r => ?_, routerF_after hok h1 h2⟩
  show seatF (nextS n.seats e hz).1 r = _
  rw [nextS_zero h1]
  exact seatF_put _ _ _
theorem putRt_sz (l : List Route) (x : Route) : (putRt l x).1.length ≤ l.length + 1 := by
  unfold putRt
  split
  · simp
  rename_i hc
  have hR : checkR l = 0 := by apply Classical.byContradiction; intro hn; exact hc (.inl hn)
  split
  · simp
  rw [ltR_wo, gtR_wo]
  cases hf : bsF (cmpQ x.pfx) l with
  | true => rw [← bs_set (strictR hR _) x hf]; simp
  | false =>
    rw [← bs_ins (strictR hR _) x hf]
    simp only [List.length_append, List.length_cons, List.length_take, List.length_drop]
    omega
theorem delRt_sz (l : List Route) (p : Pfx) : (delRt l p).1.length ≤ l.length := by
  unfold delRt
  split
  · simp
  · exact woR_len _ _
theorem putLk_sz (l : List Link) (x : Link) : (putLk l x).1.length ≤ l.length + 1 := by
  unfold putLk
  split
  · simp
  rename_i hc
  have hR : checkL l = 0 := by apply Classical.byContradiction; intro hn; exact hc (.inl hn)
  split
  · simp
  rw [ltL_cmp, gtL_cmp]
  cases hf : bsF (cmpL x.iface) l with
  | true => rw [← bs_set (strictL hR _) x hf]; simp
  | false =>
    rw [← bs_ins (strictL hR _) x hf]
    simp only [List.length_append, List.length_cons, List.length_take, List.length_drop]
    omega
theorem delLk_sz (l : List Link) (i : Int) : (delLk l i).1.length ≤ l.length := by
  unfold delLk
  split
  · simp
  rename_i hc
  have hR : checkL l = 0 := by apply Classical.byContradiction; intro hn; exact hc hn
  rw [ltL_cmp, gtL_cmp, ← bs_ne (strictL hR i)]
  exact List.length_filter_le _ _
theorem applyR_sz (r : Router) (e : Ev) : sz (applyR r e).1 ≤ sz r + if growsE e then 1 else 0 := by
  have b1 := putRt_sz r.routes ⟨e.pfx, e.act⟩
  have b2 := delRt_sz r.routes e.pfx
  have b3 := putLk_sz r.links ⟨e.iface, e.peer⟩
  have b4 := delLk_sz r.links e.iface
  have hg3 : e.kind = 3 → growsE e = true := fun h => by simp [growsE, h]
  have hg5 : e.kind = 5 → growsE e = true := fun h => by simp [growsE, h]
  unfold applyR
  split
  · simp [sz, router0]
  split
  · simp
  split
  · simp
  split
  · simp [sz]
  split
  · simp [sz]
  split
  · rename_i h
    rw [hg3 h]
    split
    · simp [sz]; omega
    · simp
  split
  · simp [sz]; omega
  split
  · rename_i h
    rw [hg5 h]
    split
    · simp [sz]; omega
    · simp
  · simp [sz]; omega
theorem happensF_sum {n : Net} {e : Ev} {hz : Int} (hok : netOk n = true) (h : (happensF n e hz).2 = 0) : sumR (happensF n e hz).1.routers ≤ sumR n.routers + if growsE e then 1 else 0 := by
  have hok2 := happensF_ok (e := e) (hz := hz) hok
  obtain ⟨h1, h2, h3⟩ := happensF_zero h
  have hx : happensF n e hz = (netAfter n e hz, 0) := by
    unfold happensF
    rw [if_neg (by omega), if_neg (by omega), if_neg h3]
  rw [hx] at hok2 ⊢
  have hm := (netOk_many hok2).1
  obtain ⟨c1, c2, c3⟩ := many_after hok h1 h2
  have hs := applyR_sz (mineN n e) e
  simp only at hm ⊢
  rw [c1] at hm
  omega
end Go.Am


set_option linter.unusedVariables false
set_option linter.unusedSimpArgs false
set_option pp.deepTerms false
set_option pp.deepTerms.threshold 40
namespace Go.Am
open Go.Proofs

/-- What is known of a net of the events up to a time, beside the net of all of them. -/
def Rel (t : Int) (N M : Net) : Prop := ∀ r, (seatF M.seats r = seatF N.seats r ∧ routerF M.routers r = routerF N.routers r) ∨ ∃ s, seatF N.seats r = some s ∧ t < s.time
def Sub (N M : Net) : Prop := ∀ r, seatF N.seats r = none → seatF M.seats r = none
theorem sorted_le : ∀ (b a : List Int), a.Pairwise (· < ·) → b.Pairwise (· < ·) → (∀ x ∈ a, x ∈ b) → a.length ≤ b.length
  | [], a, _, _, h => by
    cases a with
    | nil => exact Nat.le_refl _
    | cons x a => exact absurd (h x List.mem_cons_self) (by simp)
  | y :: b, [], _, _, _ => Nat.zero_le _
  | y :: b, x :: a, ha, hb, h => by
    have ha1 := List.pairwise_cons.1 ha
    have hb1 := List.pairwise_cons.1 hb
    by_cases hxy : x = y
    · subst hxy
      have := sorted_le b a ha1.2 hb1.2 fun z hz => by
        have h1 := ha1.1 z hz
        rcases List.mem_cons.1 (h z (List.mem_cons_of_mem _ hz)) with rfl | h2
        · omega
        · exact h2
      simp only [List.length_cons]
      omega
    · have hx : x ∈ b := (List.mem_cons.1 (h x List.mem_cons_self)).resolve_left hxy
      have hyx := hb1.1 x hx
      have := sorted_le b (x :: a) ha hb1.2 fun z hz => by
        rcases List.mem_cons.1 hz with rfl | hz'
        · exact hx
        · have h1 := ha1.1 z hz'
          rcases List.mem_cons.1 (h z hz) with rfl | h2
          · omega
          · exact h2
      simp only [List.length_cons] at *
      omega
theorem sub_len {N M : Net} (hN : netOk N = true) (hM : netOk M = true) (h : Sub N M) : M.seats.length ≤ N.seats.length := by
  have := sorted_le (N.seats.map Seat.router) (M.seats.map Seat.router) (by rw [List.pairwise_map]; exact checkS_sorted (netOk_checkS hM)) (by rw [List.pairwise_map]; exact checkS_sorted (netOk_checkS hN)) fun x hx => by
    obtain ⟨s, hs, rfl⟩ := List.mem_map.1 hx
    apply Classical.byContradiction
    intro hn
    have h1 : seatF N.seats s.router = none := by
      rw [seatF_none]
      rintro ⟨u, hu, hur⟩
      exact hn (List.mem_map.2 ⟨u, hu, hur⟩)
    have h2 := h _ h1
    rw [seatF_none] at h2
    exact h2 ⟨s, hs, rfl⟩
  simpa using this
theorem mayT_time {l : List Seat} {e : Ev} {hz : Int} (h : mayT l e hz = 0) : ((seatF l e.router).getD seat0).time ≤ e.time := by
  unfold mayT at h
  split at h
  · cases h
  split at h
  · cases h
  split at h
  · cases h
  omega
theorem mayT_same {l m : List Seat} {e : Ev} {hz : Int} (h : mayT l e hz = 0) (hs : seatF m e.router = seatF l e.router) (hl : seatF l e.router = none → ¬ m.length = 64) : mayT m e hz = 0 := by
  unfold mayT at h ⊢
  rw [hs]
  split at h
  · cases h
  rename_i c1
  split at h
  · cases h
  rename_i c2
  split at h
  · cases h
  rename_i c3
  split at h
  · cases h
  rename_i c4
  rw [if_neg c1, if_neg c2, if_neg c3, if_neg c4, if_neg]
  rintro ⟨h1, h2⟩
  exact hl h1 h2
/-- What happens at the one net happens at another one that knows as much of the router. -/
theorem happens_like {N M : Net} {e : Ev} {hz : Int} (hN : netOk N = true) (hM : netOk M = true) (h : (happensF N e hz).2 = 0) (hs : seatF M.seats e.router = seatF N.seats e.router) (hr : routerF M.routers e.router = routerF N.routers e.router)
    (hl : seatF N.seats e.router = none → ¬ M.seats.length = 64) (hsum : sumR M.routers + (if growsE e then 1 else 0) ≤ 1024) : (happensF M e hz).2 = 0 ∧ mineN M e = mineN N e := by
  obtain ⟨h1, h2, h3⟩ := happensF_zero h
  obtain ⟨g1, g2, g3, g4, g5⟩ := mayS_zero h1
  have hmine : mineN M e = mineN N e := by unfold mineN; rw [hr]
  have k1 : mayS M.seats e hz = 0 := by
    rw [mayS_T (netOk_checkS hM) g2 g3 g4]
    exact mayT_same g5 hs hl
  have k2 : (applyR (mineN M e) e).2 = 0 := by rw [hmine]; exact h2
  have k3 : ¬ 1024 < many (netAfter M e hz).routers 0 := by
    obtain ⟨c1, c2, c3⟩ := many_after hM k1 k2
    have hsz := applyR_sz (mineN M e) e
    rw [c1]
    omega
  refine ⟨?_, hmine⟩
  unfold happensF
  rw [if_neg (by omega), if_neg (by omega), if_neg k3]
theorem rel_step {N M : Net} {e : Ev} {hz t : Int} (hN : netOk N = true) (hM : netOk M = true) (h : (happensF N e hz).2 = 0) (hrel : Rel t N M) (hsub : Sub N M) (het : e.time ≤ t) (hsum : sumR M.routers + (if growsE e then 1 else 0) ≤ 1024) :
    (happensF M e hz).2 = 0 ∧ Rel t (happensF N e hz).1 (happensF M e hz).1 ∧ Sub (happensF N e hz).1 (happensF M e hz).1 := by
  obtain ⟨h1, h2, h3⟩ := happensF_zero h
  obtain ⟨g1, g2, g3, g4, g5⟩ := mayS_zero h1
  rcases hrel e.router with ⟨hs, hr⟩ | ⟨s, hs, hst⟩
  · have hlen := sub_len hN hM hsub
    have h64 := netOk_seats hN
    obtain ⟨k, hmine⟩ := happens_like hN hM h hs hr (fun hn => by have := mayT_len g5 hn; omega) hsum
    obtain ⟨n1, n2⟩ := happensF_get hN h
    obtain ⟨m1, m2⟩ := happensF_get hM k
    refine ⟨k, fun r => ?_, fun r hr0 => ?_⟩
    · rw [n1, n2, m1, m2, hmine]
      by_cases hre : r = e.router
      · simp only [if_pos hre]
        exact .inl (by simp)
      · simp only [if_neg hre]
        exact hrel r
    · rw [n1] at hr0
      rw [m1]
      by_cases hre : r = e.router
      · rw [if_pos hre] at hr0; cases hr0
      · rw [if_neg hre] at hr0 ⊢
        exact hsub r hr0
  · have := mayT_time g5
    rw [hs] at this
    simp only [Option.getD_some] at this
    omega
theorem rel_late {N M : Net} {e : Ev} {hz t : Int} (hN : netOk N = true) (h : (happensF N e hz).2 = 0) (hrel : Rel t N M) (hsub : Sub N M) (het : t < e.time) : Rel t (happensF N e hz).1 M ∧ Sub (happensF N e hz).1 M := by
  obtain ⟨n1, n2⟩ := happensF_get hN h
  refine ⟨fun r => ?_, fun r hr0 => ?_⟩
  · rw [n1, n2]
    by_cases hre : r = e.router
    · simp only [if_pos hre]
      exact .inr ⟨seatOf e, rfl, het⟩
    · simp only [if_neg hre]
      exact hrel r
  · rw [n1] at hr0
    by_cases hre : r = e.router
    · rw [if_pos hre] at hr0; cases hr0
    · rw [if_neg hre] at hr0
      exact hsub r hr0
theorem allGo_step {hz : Int} {e : Ev} {l : List Ev} {n : Net} {i : Int} (h : (allGo hz (e :: l) n i).2.2 = 0) : (happensF n e hz).2 = 0 ∧ allGo hz (e :: l) n i = allGo hz l (happensF n e hz).1 (i + 1) := by
  rw [allGo] at h
  split at h
  · rename_i h1
    exact ⟨h1, by rw [allGo, if_pos h1]⟩
  · rename_i h1
    exact absurd h h1
theorem filt_all {t hz : Int} : ∀ (l : List Ev) (N M : Net) (i j : Int), netOk N = true → netOk M = true → Rel t N M → Sub N M → sumR M.routers + addsE (upto t l) ≤ 1024 → (allGo hz l N i).2.2 = 0 →
    (allGo hz (upto t l) M j).2.2 = 0 ∧ Rel t (allGo hz l N i).1 (allGo hz (upto t l) M j).1 ∧ netOk (allGo hz (upto t l) M j).1 = true
  | [], N, M, i, j, hN, hM, hr, hs, _, _ => ⟨rfl, hr, hM⟩
  | e :: l, N, M, i, j, hN, hM, hr, hs, hsum, h => by
    obtain ⟨h1, h2⟩ := allGo_step h
    rw [h2] at h ⊢
    have hN' := happensF_ok (e := e) (hz := hz) hN
    by_cases het : e.time ≤ t
    · have hu : upto t (e :: l) = e :: upto t l := by unfold upto; rw [List.filter_cons, if_pos (by simpa using het)]
      have ha : addsE (upto t (e :: l)) = addsE (upto t l) + if growsE e then 1 else 0 := by
        rw [hu]
        unfold addsE growsE
        rw [List.countP_cons]
      rw [ha] at hsum
      obtain ⟨k1, k2, k3⟩ := rel_step hN hM h1 hr hs het (by omega)
      have hM' := happensF_ok (e := e) (hz := hz) hM
      have hsz := happensF_sum hM k1
      rw [hu, allGo, if_pos k1]
      exact filt_all l _ _ _ _ hN' hM' k2 k3 (by omega) h
    · have hu : upto t (e :: l) = upto t l := by unfold upto; rw [List.filter_cons, if_neg (by simpa using het)]
      rw [hu] at hsum ⊢
      obtain ⟨k2, k3⟩ := rel_late hN h1 hr hs (by omega)
      exact filt_all l _ _ _ _ hN' hM k2 k3 hsum h
theorem addsE_upto (t : Int) (l : List Ev) : addsE (upto t l) ≤ addsE l := (List.filter_sublist).countP_le
theorem okP_base {p : Past} (h : okP p = true) : netOk p.base = true := by
  unfold okP at h
  simp only [Bool.and_eq_true, decide_eq_true_eq] at h
  exact allN_ok h.1.2
theorem okP_all {p : Past} (h : okP p = true) : (allGo p.hz p.evs p.base 0).2.2 = 0 := by
  have hb := okP_base h
  unfold okP at h
  simp only [Bool.and_eq_true, decide_eq_true_eq] at h
  have := h.1.2
  unfold allN at this
  rw [if_neg (by simp [hb])] at this
  exact this
theorem okP_sum {p : Past} (h : okP p = true) : sumR p.base.routers + addsE p.evs ≤ 1024 := by
  have hb := okP_base h
  have hw := okP_weight h
  have hm := (netOk_many hb).1
  unfold weightF sizeN at hw
  rw [if_pos hb, hm] at hw
  omega
theorem Rel.refl (t : Int) (N : Net) : Rel t N N := fun r => .inl ⟨rfl, rfl⟩
/-- A right past has a net at each time. -/
theorem thenW_ok {p : Past} (h : okP p = true) (t : Int) : thenW p t = 0 := by
  have hb := okP_base h
  have hs := okP_sum h
  have ha := addsE_upto t p.evs
  unfold thenW allN
  rw [if_neg (by simp [hb])]
  exact (filt_all p.evs p.base p.base 0 0 hb hb (Rel.refl _ _) (fun r h => h) (by omega) (okP_all h)).1
end Go.Am


set_option linter.unusedVariables false
set_option linter.unusedSimpArgs false
set_option pp.deepTerms false
set_option pp.deepTerms.threshold 40
namespace Go.Am
open Go.Proofs

theorem atO_spec (p : Past) (t : Int) (hew : ∀ e ∈ p.evs, 0 ≤ e.seq) : FSpec Tryz.prog 27 [p.av, .int .i64 t] []
    (.tup [(if okP p = true ∧ askT p t = 0 then thenF p t else net0).av, .int .i64 (if okP p then askT p t else 2)]) [] := by
  have h := atP_spec p t hew
  have e : (if okP p then (if askT p t = 0 then thenW p t else askT p t) else 2) = if okP p then askT p t else 2 := by
    by_cases hok : okP p = true
    · rw [if_pos hok, if_pos hok]
      by_cases hb : askT p t = 0
      · rw [if_pos hb, hb, thenW_ok hok]
      · rw [if_neg hb]
    · rw [if_neg hok, if_neg hok]
  rw [e] at h
  exact h
theorem retO_spec (p : Past) (t : Int) (hew : ∀ e ∈ p.evs, 0 ≤ e.seq) : FSpec Tryz.prog 17 [p.av, .int .i64 t] [] (.tup [(retainP p t).1.av, .int .i64 (retainP p t).2]) [] :=
  retainPo_spec p t hew fun h _ => thenW_ok h t
def lE1 : Ev := ⟨1, 4, 1, 5, ⟨false, ⟨0, 0⟩, 0⟩, ⟨0, 0⟩, 0, 0⟩
def lE2 : Ev := ⟨5, 4, 2, 8, ⟨false, ⟨0, 0⟩, 0⟩, ⟨0, 0⟩, 3, 7⟩
def lE3 : Ev := ⟨1, 5, 1, 7, ⟨false, ⟨0, 0⟩, 0⟩, ⟨0, 0⟩, 0, 0⟩
def lP0 : Past := ⟨⟨[], []⟩, -1, []⟩
def lP1 : Past := ⟨⟨[], []⟩, -1, [lE1]⟩
def lP2 : Past := ⟨⟨[], []⟩, -1, [lE1, lE2]⟩
def lB : Net := ⟨[⟨4, 1, 5, true⟩], [⟨4, true, [], []⟩]⟩
def lN : Net := ⟨[⟨4, 2, 8, true⟩], [⟨4, true, [], [⟨3, 7⟩]⟩]⟩
def lQ : Past := ⟨lB, 7, [lE2]⟩
theorem l1 : takeP lP0 lE1 = (lP1, 0) := by kernel_rfl
theorem l2 : takeP lP1 lE2 = (lP2, 0) := by kernel_rfl
theorem l3 : okP lP2 = true := by kernel_rfl
theorem l4 : thenF lP2 4 = net0 := by kernel_rfl
theorem l5 : thenF lP2 5 = lB := by kernel_rfl
theorem l6 : nowP lP2 = lN := by kernel_rfl
theorem l7 : retainP lP2 7 = (lQ, 0) := by kernel_rfl
theorem l8 : okP lQ = true := by kernel_rfl
theorem l9 : thenF lQ 7 = lB := by kernel_rfl
theorem l10 : takeP lQ lE3 = (lQ, 13) := by kernel_rfl
theorem l11 : retainP lQ 6 = (lQ, 15) := by kernel_rfl
theorem l12 : weightF lQ = 1 := by kernel_rfl
theorem l13 : happT lP2.evs 5 9 = [8] := by kernel_rfl
theorem l14 : timesF lP2.evs 5 9 = [8] := by
  unfold timesF
  rw [l13]
  simp [sortI, dedup]
theorem l15 : timesW lP2 5 9 = 0 := by kernel_rfl
theorem lw2 : ∀ e ∈ lP2.evs, 0 ≤ e.seq := by intro e he; simp [lP2, lE1, lE2] at he; rcases he with rfl | rfl <;> decide
theorem lwq : ∀ e ∈ lQ.evs, 0 ≤ e.seq := by intro e he; simp [lQ, lE2] at he; subst he; decide
theorem s1 : FSpec Tryz.prog 15 [lP0.av, lE1.av] [] (.tup [lP1.av, .int .i64 0]) [] := by
  have h := takePo_spec lP0 lE1 (by intro e he; cases he) (by decide)
  rw [l1] at h; exact h
theorem s2 : FSpec Tryz.prog 15 [lP1.av, lE2.av] [] (.tup [lP2.av, .int .i64 0]) [] := by
  have h := takePo_spec lP1 lE2 (by intro e he; simp [lP1, lE1] at he; subst he; decide) (by decide)
  rw [l2] at h; exact h
theorem s3 : FSpec Tryz.prog 27 [lP2.av, .int .i64 4] [] (.tup [net0.av, .int .i64 0]) [] := by
  have h := atO_spec lP2 4 lw2
  rw [if_pos ⟨l3, by decide⟩, if_pos l3, l4, show askT lP2 4 = 0 by decide] at h
  exact h
theorem s4 : FSpec Tryz.prog 27 [lP2.av, .int .i64 5] [] (.tup [lB.av, .int .i64 0]) [] := by
  have h := atO_spec lP2 5 lw2
  rw [if_pos ⟨l3, by decide⟩, if_pos l3, l5, show askT lP2 5 = 0 by decide] at h
  exact h
theorem s5 : FSpec Tryz.prog 29 [lP2.av] [] (.tup [lN.av, .int .i64 0]) [] := by
  have h := nowP_spec lP2 lw2
  rw [if_pos l3, if_pos l3, l6] at h
  exact h
theorem s6 : FSpec Tryz.prog 31 [lP2.av, .agg [.int .i64 5, .int .i64 9]] [] (.tup [.im (.sl 1 (rowN [8])), .int .i64 0]) [] := by
  have h := timesPo_spec lP2 5 9 lw2
  rw [if_pos l15, l14, l15] at h
  exact h
theorem s7 : FSpec Tryz.prog 17 [lP2.av, .int .i64 7] [] (.tup [lQ.av, .int .i64 0]) [] := by
  have h := retO_spec lP2 7 lw2
  rw [l7] at h; exact h
theorem s8 : FSpec Tryz.prog 27 [lQ.av, .int .i64 5] [] (.tup [net0.av, .int .i64 15]) [] := by
  have h := atO_spec lQ 5 lwq
  rw [if_neg (fun hh => absurd hh.2 (by decide)), if_pos l8, show askT lQ 5 = 15 by decide] at h
  exact h
theorem s9 : FSpec Tryz.prog 27 [lQ.av, .int .i64 7] [] (.tup [lB.av, .int .i64 0]) [] := by
  have h := atO_spec lQ 7 lwq
  rw [if_pos ⟨l8, by decide⟩, if_pos l8, l9, show askT lQ 7 = 0 by decide] at h
  exact h
theorem s10 : FSpec Tryz.prog 15 [lQ.av, lE3.av] [] (.tup [lQ.av, .int .i64 13]) [] := by
  have h := takePo_spec lQ lE3 lwq (by decide)
  rw [l10] at h; exact h
theorem s11 : FSpec Tryz.prog 17 [lQ.av, .int .i64 6] [] (.tup [lQ.av, .int .i64 15]) [] := by
  have h := retO_spec lQ 6 lwq
  rw [l11] at h; exact h
theorem s12 : FSpec Tryz.prog 19 [lQ.av] [] (.tup [.int .i64 1, .int .i64 0]) [] := by
  have h := weightP_spec lQ lwq
  rw [if_pos l8, if_pos l8, l12] at h
  exact h
theorem s13 : FSpec Tryz.prog 22 [lQ.av] [] (.int .i64 0) [] := by
  have h := checkP_spec_ lQ lwq
  rw [if_pos l8] at h
  exact h
set_option maxRecDepth 8000 in
set_option maxHeartbeats 4000000 in
theorem lives21_spec : FSpec Tryz.prog 21 [] [] (.bool true) [] := by
  refine FSpec.of_flat (q := []) Tryz.func21 (by kernel_rfl) rfl Tryz.ntmps21 Tryz.results21 hP (by kernel_rfl) (by simp) (by first | rfl | simp) ?_
  simp -implicitDefEqProofs
  first | refine CallK.same (makePo_spec) rfl rfl ?_ | refine CallQ.same (makePo_spec) rfl rfl ?_ | refine CallQG.same _ (makePo_spec) rfl ?_ | refine CallG.same _ (makePo_spec) rfl ?_ | refine CallK.pv (makePo_spec) rfl rfl ?_
  simp -implicitDefEqProofs
  refine CallK.v0 s1 rfl (by simp [lP0, lE1]) rfl ?_
  simp -implicitDefEqProofs
  refine CallK.v0 s2 rfl (by simp [lE2]) rfl ?_
  simp -implicitDefEqProofs
  first | refine CallK.same (s3) rfl rfl ?_ | refine CallQ.same (s3) rfl rfl ?_ | refine CallQG.same _ (s3) rfl ?_ | refine CallG.same _ (s3) rfl ?_ | refine CallK.pv (s3) rfl rfl ?_
  simp -implicitDefEqProofs
  first | refine CallK.same (s4) rfl rfl ?_ | refine CallQ.same (s4) rfl rfl ?_ | refine CallQG.same _ (s4) rfl ?_ | refine CallG.same _ (s4) rfl ?_ | refine CallK.pv (s4) rfl rfl ?_
  simp -implicitDefEqProofs
  first | refine CallK.same (s5) rfl rfl ?_ | refine CallQ.same (s5) rfl rfl ?_ | refine CallQG.same _ (s5) rfl ?_ | refine CallG.same _ (s5) rfl ?_ | refine CallK.pv (s5) rfl rfl ?_
  simp -implicitDefEqProofs
  first | refine CallK.same (s6) rfl rfl ?_ | refine CallQ.same (s6) rfl rfl ?_ | refine CallQG.same _ (s6) rfl ?_ | refine CallG.same _ (s6) rfl ?_ | refine CallK.pv (s6) rfl rfl ?_
  simp -implicitDefEqProofs
  first | refine CallK.same (s7) rfl rfl ?_ | refine CallQ.same (s7) rfl rfl ?_ | refine CallQG.same _ (s7) rfl ?_ | refine CallG.same _ (s7) rfl ?_ | refine CallK.pv (s7) rfl rfl ?_
  simp -implicitDefEqProofs
  first | refine CallK.same (s8) rfl rfl ?_ | refine CallQ.same (s8) rfl rfl ?_ | refine CallQG.same _ (s8) rfl ?_ | refine CallG.same _ (s8) rfl ?_ | refine CallK.pv (s8) rfl rfl ?_
  simp -implicitDefEqProofs
  first | refine CallK.same (s9) rfl rfl ?_ | refine CallQ.same (s9) rfl rfl ?_ | refine CallQG.same _ (s9) rfl ?_ | refine CallG.same _ (s9) rfl ?_ | refine CallK.pv (s9) rfl rfl ?_
  simp -implicitDefEqProofs
  refine CallK.v0 s10 rfl (by simp [lE3]) rfl ?_
  simp -implicitDefEqProofs
  first | refine CallK.same (s11) rfl rfl ?_ | refine CallQ.same (s11) rfl rfl ?_ | refine CallQG.same _ (s11) rfl ?_ | refine CallG.same _ (s11) rfl ?_ | refine CallK.pv (s11) rfl rfl ?_
  simp -implicitDefEqProofs
  first | refine CallK.same (s12) rfl rfl ?_ | refine CallQ.same (s12) rfl rfl ?_ | refine CallQG.same _ (s12) rfl ?_ | refine CallG.same _ (s12) rfl ?_ | refine CallK.pv (s12) rfl rfl ?_
  simp -implicitDefEqProofs [lN, lB, lQ, net0, rowN]
  have hB : FSpec Tryz.prog 33 [lB.av, lB.av] [] (.bool true) [] := same18_spec lB
  first | refine CallG.on ?_ | skip
  refine CallK.v0 hB rfl (by simp [lB]) rfl ?_
  simp -implicitDefEqProofs
  first | refine CallG.on ?_ | skip
  refine CallK.v0 s13 rfl (by simp [lQ, lB]) rfl ?_
  simp -implicitDefEqProofs
  first | refine CallG.on ?_ | skip
  first | refine CallK.same (makePo_spec) rfl rfl ?_ | refine CallQ.same (makePo_spec) rfl rfl ?_ | refine CallQG.same _ (makePo_spec) rfl ?_ | refine CallG.same _ (makePo_spec) rfl ?_ | refine CallK.pv (makePo_spec) rfl rfl ?_
  simp -implicitDefEqProofs
end Go.Am


set_option linter.unusedVariables false
set_option linter.unusedSimpArgs false
set_option pp.deepTerms false
set_option pp.deepTerms.threshold 40
namespace Go.Am
open Go.Proofs

theorem Past.wf_seq {p : Past} (h : p.wf) : ∀ e ∈ p.evs, 0 ≤ e.seq := fun e he => (h.2 e he).1
def evSh : List Sh := [.int .u8, .int .i64, .int .u64, .int .i64, .bool, .int .u64, .int .u64, .int .i64, .int .u8, .int .i64, .int .i64, .int .i64]
def pastSh : List Sh := [.sl seatSh, .sl routerSh, .int .i64, .sl evSh]
theorem ev_of (y : List IV) (h : Sh.hasL evSh y) : ∃ e : Ev, (0 ≤ e.seq ∧ e.pfx.addr.wf) ∧ y = e.iv := by
  obtain ⟨a, _, rfl, ha, h⟩ := hasL_cons h
  obtain ⟨b, _, rfl, hb, h⟩ := hasL_cons h
  obtain ⟨c, _, rfl, hc, h⟩ := hasL_cons h
  obtain ⟨d, _, rfl, hd, h⟩ := hasL_cons h
  obtain ⟨e, _, rfl, he, h⟩ := hasL_cons h
  obtain ⟨f, _, rfl, hf, h⟩ := hasL_cons h
  obtain ⟨g, _, rfl, hg, h⟩ := hasL_cons h
  obtain ⟨i, _, rfl, hi, h⟩ := hasL_cons h
  obtain ⟨j, _, rfl, hj, h⟩ := hasL_cons h
  obtain ⟨k, _, rfl, hk, h⟩ := hasL_cons h
  obtain ⟨l, _, rfl, hl, h⟩ := hasL_cons h
  obtain ⟨m, _, rfl, hm, h⟩ := hasL_cons h
  cases hasL_nil h
  obtain ⟨a, rfl, _⟩ := has_int ha
  obtain ⟨b, rfl, _⟩ := has_int hb
  obtain ⟨c, rfl, wc⟩ := has_int hc
  obtain ⟨d, rfl, _⟩ := has_int hd
  obtain ⟨e, rfl⟩ := has_bool he
  obtain ⟨f, rfl, wf⟩ := has_int hf
  obtain ⟨g, rfl, wg⟩ := has_int hg
  obtain ⟨i, rfl, _⟩ := has_int hi
  obtain ⟨j, rfl, _⟩ := has_int hj
  obtain ⟨k, rfl, _⟩ := has_int hk
  obtain ⟨l, rfl, _⟩ := has_int hl
  obtain ⟨m, rfl, _⟩ := has_int hm
  exact ⟨⟨a, b, c, d, ⟨e, ⟨f, g⟩, i⟩, ⟨j, k⟩, l, m⟩, ⟨(u64_wf wc).1, ⟨(u64_wf wf).1, (u64_wf wf).2, u64_wf wg⟩⟩, rfl⟩
theorem past_of (y : List IV) (h : Sh.hasL pastSh y) : ∃ p : Past, p.wf ∧ y.map AV.im = [.im (.sl 4 (p.base.seats.map Seat.iv)), .im (.sl 4 (p.base.routers.map Router.iv)), .int .i64 p.hz, .im (.sl 12 (p.evs.map Ev.iv))] := by
  obtain ⟨a, _, rfl, ha, h⟩ := hasL_cons h
  obtain ⟨b, _, rfl, hb, h⟩ := hasL_cons h
  obtain ⟨c, _, rfl, hc, h⟩ := hasL_cons h
  obtain ⟨d, _, rfl, hd, h⟩ := hasL_cons h
  cases hasL_nil h
  obtain ⟨a, rfl, wa⟩ := has_sl ha
  obtain ⟨b, rfl, wb⟩ := has_sl hb
  obtain ⟨c, rfl, _⟩ := has_int hc
  obtain ⟨d, rfl, wd⟩ := has_sl hd
  obtain ⟨ss, rfl, _⟩ := rows_of seat_of a wa
  obtain ⟨rs, rfl, hr⟩ := rows_of router_of b wb
  obtain ⟨es, rfl, hes⟩ := rows_of ev_of d wd
  exact ⟨⟨⟨ss, rs⟩, c, es⟩, ⟨hr, hes⟩, rfl⟩
theorem int1_of {x : List IV} (h : Sh.hasL [.int .i64] x) : ∃ t : Int, x = [.sc (.int .i64 t)] := by
  obtain ⟨a, _, rfl, ha, h⟩ := hasL_cons h
  cases hasL_nil h
  obtain ⟨a, rfl, _⟩ := has_int ha
  exact ⟨a, rfl⟩
end Go.Am


set_option linter.unusedVariables false
set_option linter.unusedSimpArgs false
set_option pp.deepTerms false
set_option pp.deepTerms.threshold 40
namespace Go.Am
open Go.Proofs

end Go.Am


set_option linter.unusedVariables false
set_option linter.unusedSimpArgs false
set_option pp.deepTerms false
set_option pp.deepTerms.threshold 40
namespace Go.Am
open Go.Proofs

end Go.Am


set_option linter.unusedVariables false
set_option linter.unusedSimpArgs false
set_option pp.deepTerms false
set_option pp.deepTerms.threshold 40
namespace Go.Am
open Go.Proofs

end Go.Am


set_option linter.unusedVariables false
set_option linter.unusedSimpArgs false
set_option pp.deepTerms false
set_option pp.deepTerms.threshold 40
namespace Go.Am
open Go.Proofs

end Go.Am


set_option linter.unusedVariables false
set_option linter.unusedSimpArgs false
set_option pp.deepTerms false
set_option pp.deepTerms.threshold 40
namespace Go.Am
open Go.Proofs

theorem ev_arg (y : List IV) (h : Sh.hasL evSh y) : ∃ e : Ev, (0 ≤ e.seq ∧ e.pfx.addr.wf) ∧ argAV Tryz.prog 39 y = e.av := by
  obtain ⟨e, he, rfl⟩ := ev_of y h
  refine ⟨e, he, ?_⟩
  simp only [argAV, Tryz.underlying39]
  rfl
theorem int_arg (y : List IV) (h : Sh.hasL [.int .i64] y) : ∃ t : Int, argAV Tryz.prog 2 y = .int .i64 t := by
  obtain ⟨t, rfl⟩ := int1_of h
  refine ⟨t, ?_⟩
  simp only [argAV, Tryz.underlying2]
end Go.Am


set_option linter.unusedVariables false
set_option linter.unusedSimpArgs false
set_option pp.deepTerms false
set_option pp.deepTerms.threshold 40
namespace Go.Am
open Go.Proofs

theorem same21_spec (p : Past) : FSpec Tryz.prog 24 [p.av, p.av] [] (.bool true) [] := by
  refine FSpec.of_flat (q := []) Tryz.func24 (by kernel_rfl) rfl Tryz.ntmps24 Tryz.results24 hP (by kernel_rfl) (by simp) (by first | rfl | simp) ?_
  simp -implicitDefEqProofs
  first | refine CallK.same (same18_spec p.base) rfl rfl ?_ | refine CallQ.same (same18_spec p.base) rfl rfl ?_ | refine CallQG.same _ (same18_spec p.base) rfl ?_ | refine CallG.same _ (same18_spec p.base) rfl ?_ | refine CallK.pv (same18_spec p.base) rfl rfl ?_
  simp -implicitDefEqProofs
  refine CallG.on ?_
  first | refine CallK.same (same11_spec p.evs) rfl rfl ?_ | refine CallQ.same (same11_spec p.evs) rfl rfl ?_ | refine CallQG.same _ (same11_spec p.evs) rfl ?_ | refine CallG.same _ (same11_spec p.evs) rfl ?_ | refine CallK.pv (same11_spec p.evs) rfl rfl ?_
  simp -implicitDefEqProofs
theorem retainP_cases {p : Past} (t : Int) (hok : okP p = true) : (askT p t = 0 ∧ retainP p t = (keepP p t, 0)) ∨ (¬ askT p t = 0 ∧ retainP p t = (p, askT p t)) := by
  unfold retainP
  rw [if_neg (by simp [hok])]
  by_cases h0 : askT p t = 0
  · exact .inl ⟨h0, by rw [if_pos h0]⟩
  · exact .inr ⟨h0, by rw [if_neg h0]⟩
end Go.Am


set_option linter.unusedVariables false
set_option linter.unusedSimpArgs false
set_option pp.deepTerms false
set_option pp.deepTerms.threshold 40
namespace Go.Am
open Go.Proofs

set_option maxRecDepth 8000 in
set_option maxHeartbeats 4000000 in
theorem copyP_spec (p : Past) (h1 : p.base.seats.length ≤ 100000000) (h2 : p.base.routers.length ≤ 100000000) (h3 : ∀ r ∈ p.base.routers, r.routes.length ≤ 100000000 ∧ r.links.length ≤ 100000000) (h4 : p.evs.length ≤ 100000000) : FSpec Tryz.prog 14 [p.av] [] p.av [] := by
  have hc := copyN_spec p.base h1 h2 h3
  refine FSpec.of_z (q := [(1, .m [.p [1], .p [1], .p [1], .p [1, 2], .p [1, 2], .e [], .p [0], .p [0], .e [8, 10]])]) Tryz.func14 (by kernel_rfl) rfl Tryz.ntmps14 Tryz.results14 hP (by kernel_rfl) (by simp) (by first | rfl | simp) ?_
  simp -implicitDefEqProofs
  first | refine CallK.same (hc) rfl rfl ?_ | refine CallQ.same (hc) rfl rfl ?_ | refine CallQG.same _ (hc) rfl ?_ | refine CallG.same _ (hc) rfl ?_ | refine CallK.pv (hc) rfl rfl ?_
  simp -implicitDefEqProofs
  refine ⟨⟨by omega, by unfold maxLen; omega⟩, ?_⟩
  refine EndZ.ret [3] (.agg [.im (.sl 4 (p.base.seats.map Seat.iv)), .im (.sl 4 (p.base.routers.map Router.iv)), .int .i64 p.hz, .row 3]) (by simp) ?_
  simp -implicitDefEqProofs
set_option maxRecDepth 8000 in
set_option maxHeartbeats 4000000 in
theorem copyPo_spec (p : Past) (h1 : p.base.seats.length ≤ 100000000) (h2 : p.base.routers.length ≤ 100000000) (h3 : ∀ r ∈ p.base.routers, r.routes.length ≤ 100000000 ∧ r.links.length ≤ 100000000) (h4 : p.evs.length ≤ 100000000) :
    FSpec Tryz.prog 14 [p.av] [] (.agg [.im (.sl 4 (p.base.seats.map Seat.iv)), .im (.sl 4 (p.base.routers.map Router.iv)), .int .i64 p.hz, .row 0]) [evsO p.evs] := by
  have hc := copyN_spec p.base h1 h2 h3
  refine FSpec.of_o (q := [(1, .m [.p [1], .p [1], .p [1], .p [1, 2], .p [1, 2], .e [], .p [0], .p [0], .e [8, 10]])]) Tryz.func14 (by kernel_rfl) rfl Tryz.ntmps14 Tryz.results14 hP (by kernel_rfl) (by simp) (by first | rfl | simp) ?_
  simp -implicitDefEqProofs
  first | refine CallK.same (hc) rfl rfl ?_ | refine CallQ.same (hc) rfl rfl ?_ | refine CallQG.same _ (hc) rfl ?_ | refine CallG.same _ (hc) rfl ?_ | refine CallK.pv (hc) rfl rfl ?_
  simp -implicitDefEqProofs
  refine ⟨⟨by omega, by unfold maxLen; omega⟩, ?_⟩
  refine EndO.ret [] [3] (.agg [.im (.sl 4 (p.base.seats.map Seat.iv)), .im (.sl 4 (p.base.routers.map Router.iv)), .int .i64 p.hz, .row 3]) (by simp) ?_
  simp -implicitDefEqProofs
theorem okP_bd (p : Past) (h : okP p = true) : p.base.seats.length ≤ 100000000 ∧ p.base.routers.length ≤ 100000000 ∧ (∀ r ∈ p.base.routers, r.routes.length ≤ 100000000 ∧ r.links.length ≤ 100000000) ∧ p.evs.length ≤ 100000000 := by
  have hn : netOk p.base = true := by
    unfold okP at h
    simp only [Bool.and_eq_true, decide_eq_true_eq] at h
    have k5 := h.1.2
    cases hn : netOk p.base with
    | true => rfl
    | false => unfold allN at k5; rw [if_pos hn] at k5; cases k5
  have h1 := netOk_seats hn
  have h2 := netOk_len hn
  have h3 := (netOk_routers hn).2
  have h4 := okP_len h
  refine ⟨by omega, by omega, fun r hr => ?_, by omega⟩
  have := routerOk_len (h3 r hr)
  omega
theorem copyPok_spec (p : Past) (h : okP p = true) : FSpec Tryz.prog 14 [p.av] [] p.av [] := by
  obtain ⟨h1, h2, h3, h4⟩ := okP_bd p h
  exact copyP_spec p h1 h2 h3 h4
theorem copyPoo_spec (p : Past) (h : okP p = true) : FSpec Tryz.prog 14 [p.av] [] (.agg [.im (.sl 4 (p.base.seats.map Seat.iv)), .im (.sl 4 (p.base.routers.map Router.iv)), .int .i64 p.hz, .row 0]) [evsO p.evs] := by
  obtain ⟨h1, h2, h3, h4⟩ := okP_bd p h
  exact copyPo_spec p h1 h2 h3 h4
end Go.Am


set_option linter.unusedVariables false
set_option linter.unusedSimpArgs false
set_option pp.deepTerms false
set_option pp.deepTerms.threshold 40
namespace Go.Am
open Go.Proofs

theorem allGo_wf {hz : Int} : ∀ (l : List Ev) (n : Net) (i : Int), n.wf → (∀ e ∈ l, e.pfx.addr.wf) → (allGo hz l n i).1.wf
  | [], n, i, h, _ => h
  | e :: l, n, i, h, hl => by
    rw [allGo]
    split
    · exact allGo_wf l _ _ (happensF_wf h (hl e List.mem_cons_self)) fun x hx => hl x (List.mem_cons_of_mem _ hx)
    · exact h
theorem net0_wf : net0.wf := by intro r hr; cases hr
theorem allN_wf {n : Net} {l : List Ev} {hz : Int} (h : n.wf) (hl : ∀ e ∈ l, e.pfx.addr.wf) : (allN n l hz).1.wf := by
  unfold allN
  split
  · exact net0_wf
  · exact allGo_wf l n 0 h hl
theorem nowD_ok {p : Past} (h : okP p = true) : nowD p = nowP p := by
  rw [okP_eq] at h
  simp only [Bool.and_eq_true, Bool.not_eq_true'] at h
  unfold nowD
  rw [if_neg (by simp [h.1.1.1, h.1.1.2])]
theorem nowP_wf {p : Past} (hw : p.wf) : (nowP p).wf := by
  unfold nowP
  exact allN_wf hw.1 (fun e he => (hw.2 e he).2)
set_option maxRecDepth 8000 in
set_option maxHeartbeats 4000000 in
theorem takePr_spec (p : Past) (e : Ev) (hw : p.wf) (hsq : 0 ≤ e.seq) (hew : e.pfx.addr.wf) : FSpec Tryz.prog 16 [p.av, e.av] [] (.tup [(takeP p e).1.av, .int .i64 (takeP p e).2]) [] := by
  have h1 := nowr_spec p hw
  cases hok : okP p with
  | false =>
    have hr : takeP p e = (past0, 2) := by unfold takeP; rw [if_pos (.inl hok)]
    rw [hr]
    rw [hok] at h1
    generalize nowD p = N at *
    refine FSpec.of_z (q := []) Tryz.func16 (by kernel_rfl) rfl Tryz.ntmps16 Tryz.results16 hP (by kernel_rfl) (by simp) (by first | rfl | simp) ?_
    simp -implicitDefEqProofs
    first | refine CallK.same (h1) rfl rfl ?_ | refine CallQ.same (h1) rfl rfl ?_ | refine CallQG.same _ (h1) rfl ?_ | refine CallG.same _ (h1) rfl ?_ | refine CallK.pv (h1) rfl rfl ?_
    simp -implicitDefEqProofs
    refine EndZ.ret [] (.tup [.agg [.im (.sc (.slice none 0 0)), .im (.sc (.slice none 0 0)), .int .i64 0, .im (.sc (.slice none 0 0))], .int .i64 2]) (by simp) ?_
    simp [past0]
  | true =>
    rw [nowD_ok hok, hok] at h1
    have h2 := applyNr_spec (nowP p) e p.hz (nowP_wf hw) hew
    have h3 := copyPok_spec p hok
    have hwt := weight_add p e
    have hl := okP_len hok
    have hw1 := okP_weight hok
    have h4 := weightr_spec (addE p e) hw.1 (by show (p.evs ++ [e]).length ≤ 100000000; simp; omega)
    have hT : takeW p e = if ¬ (applyN (nowP p) e p.hz).2 = 0 then (applyN (nowP p) e p.hz).2 else if fullP p e then 8 else 0 := rfl
    have hf : fullP p e = (decide ((p.evs.length : Int) = 1024) || (growsE e && decide (weightF p = 1024))) := rfl
    have hx : takeP p e = if takeW p e = 2 then (past0, 2) else if takeW p e = 0 then (addE p e, 0) else (p, takeW p e) := by
      unfold takeP
      by_cases h : takeW p e = 2
      · rw [if_pos (.inr h), if_pos h]
      · rw [if_neg (by simp [hok, h]), if_neg h]
    generalize takeP p e = RES at *
    generalize applyN (nowP p) e p.hz = A at *
    generalize nowP p = N at *
    refine FSpec.of_z (q := []) Tryz.func16 (by kernel_rfl) rfl Tryz.ntmps16 Tryz.results16 hP (by kernel_rfl) (by simp) (by first | rfl | simp) ?_
    simp -implicitDefEqProofs
    first | refine CallK.same (h1) rfl rfl ?_ | refine CallQ.same (h1) rfl rfl ?_ | refine CallQG.same _ (h1) rfl ?_ | refine CallG.same _ (h1) rfl ?_ | refine CallK.pv (h1) rfl rfl ?_
    simp -implicitDefEqProofs
    first | refine CallK.same (h2) rfl rfl ?_ | refine CallQ.same (h2) rfl rfl ?_ | refine CallQG.same _ (h2) rfl ?_ | refine CallG.same _ (h2) rfl ?_ | refine CallK.pv (h2) rfl rfl ?_
    simp -implicitDefEqProofs
    refine ⟨fun h => ?_, fun b1 => ?_⟩
    · rw [if_pos (by omega)] at hT
      rw [hT, if_pos h] at hx
      subst hx
      refine EndZ.ret [] (.tup [.agg [.im (.sc (.slice none 0 0)), .im (.sc (.slice none 0 0)), .int .i64 0, .im (.sc (.slice none 0 0))], .int .i64 A.2]) (by simp) ?_
      simp [past0, h]
    first | refine CallK.same (h3) rfl rfl ?_ | refine CallQ.same (h3) rfl rfl ?_ | refine CallQG.same _ (h3) rfl ?_ | refine CallG.same _ (h3) rfl ?_ | refine CallK.pv (h3) rfl rfl ?_
    simp -implicitDefEqProofs
    refine ⟨fun h => ?_, fun b2 => ?_⟩
    · rw [if_pos h] at hT
      rw [hT, if_neg b1, if_neg h] at hx
      subst hx
      refine EndZ.ret [] (.tup [p.av, .int .i64 A.2]) (by simp) ?_
      simp -implicitDefEqProofs
    rw [if_neg (by simp [b2])] at hT
    refine CallK.outs [] (copyPoo_spec p hok) rfl (by simp) (by simp [AV.flat]) ?_
    simp -implicitDefEqProofs
    refine ⟨⟨by omega, by unfold maxLen; omega⟩, ?_⟩
    refine .inl ⟨[8], [(addE p e).av], .int .i64 (weightF (addE p e)), fun _ => ⟨h4, by simp [addE]⟩, rfl, ?_⟩
    have hwe : weightF (addE p e) = weightF p + if growsE e = true then 1 else 0 := hwt
    generalize weightF (addE p e) = W2 at *
    simp -implicitDefEqProofs
    refine ⟨fun h => ?_, fun c1 c2 => ?_⟩
    · have hfull : fullP p e = true := by
        rw [hf]
        cases hg : growsE e with
        | true =>
          rw [hg, if_pos rfl] at hwe
          by_cases h0 : (p.evs.length : Int) = 1024
          · simp [h0]
          · have : weightF p = 1024 := by omega
            simp [this]
        | false =>
          rw [hg, if_neg (by simp)] at hwe
          have : (p.evs.length : Int) = 1024 := by omega
          simp [this]
      rw [if_pos hfull] at hT
      rw [hT, if_neg (by decide), if_neg (by decide)] at hx
      subst hx
      refine EndZ.ret [] (.tup [p.av, .int .i64 8]) (by simp) ?_
      simp -implicitDefEqProofs
    · have hfull : fullP p e = false := by
        rw [hf]
        have h0 : ¬ (p.evs.length : Int) = 1024 := by omega
        cases hg : growsE e with
        | true =>
          rw [hg, if_pos rfl] at hwe
          have : ¬ weightF p = 1024 := by omega
          simp [h0, this]
        | false => simp [h0]
      rw [if_neg (by simp [hfull])] at hT
      rw [hT, if_neg (by decide), if_pos rfl] at hx
      subst hx
      refine EndZ.ret [8] (.tup [.agg [.im (.sl 4 (p.base.seats.map Seat.iv)), .im (.sl 4 (p.base.routers.map Router.iv)), .int .i64 p.hz, .row 8], .int .i64 0]) (by simp) ?_
      simp -implicitDefEqProofs [addE]
set_option maxRecDepth 8000 in
set_option maxHeartbeats 4000000 in
theorem retainPr_spec (p : Past) (t : Int) (hw : p.wf) : FSpec Tryz.prog 18 [p.av, .int .i64 t] [] (.tup [(retainP p t).1.av, .int .i64 (retainP p t).2]) [] := by
  have h1 := checkPr21_spec p hw
  have h2 := askedr_spec p t
  rw [askT_eq] at h2
  cases hok : okP p with
  | false =>
    have hr : retainP p t = (past0, 2) := by unfold retainP; rw [if_pos hok]
    rw [hr]
    rw [hok] at h1
    refine FSpec.of_z (q := []) Tryz.func18 (by kernel_rfl) rfl Tryz.ntmps18 Tryz.results18 hP (by kernel_rfl) (by simp) (by first | rfl | simp) ?_
    simp -implicitDefEqProofs
    first | refine CallK.same (h1) rfl rfl ?_ | refine CallQ.same (h1) rfl rfl ?_ | refine CallQG.same _ (h1) rfl ?_ | refine CallG.same _ (h1) rfl ?_ | refine CallK.pv (h1) rfl rfl ?_
    simp -implicitDefEqProofs
    refine EndZ.ret [] (.tup [.agg [.im (.sc (.slice none 0 0)), .im (.sc (.slice none 0 0)), .int .i64 0, .im (.sc (.slice none 0 0))], .int .i64 2]) (by simp) ?_
    simp [past0]
  | true =>
    rw [hok] at h1
    have hl := okP_len hok
    have h3 := copyPok_spec p hok
    have h4 := thenr_spec p t hw.1 (fun e he => (hw.2 e he).2) (by omega)
    rcases retainP_cases t hok with ⟨b0, hr⟩ | ⟨b0, hr⟩
    · rw [hr]
      rw [b0] at h2
      have hq : keepP p t = ⟨thenF p t, t, after t p.evs⟩ := rfl
      rw [hq]
      generalize thenF p t = N at *
      refine FSpec.of_z (q := []) Tryz.func18 (by kernel_rfl) rfl Tryz.ntmps18 Tryz.results18 hP (by kernel_rfl) (by simp) (by first | rfl | simp) ?_
      simp -implicitDefEqProofs
      first | refine CallK.same (h1) rfl rfl ?_ | refine CallQ.same (h1) rfl rfl ?_ | refine CallQG.same _ (h1) rfl ?_ | refine CallG.same _ (h1) rfl ?_ | refine CallK.pv (h1) rfl rfl ?_
      simp -implicitDefEqProofs
      first | refine CallK.same (h2) rfl rfl ?_ | refine CallQ.same (h2) rfl rfl ?_ | refine CallQG.same _ (h2) rfl ?_ | refine CallG.same _ (h2) rfl ?_ | refine CallK.pv (h2) rfl rfl ?_
      simp -implicitDefEqProofs
      first | refine CallK.same (h4) rfl rfl ?_ | refine CallQ.same (h4) rfl rfl ?_ | refine CallQG.same _ (h4) rfl ?_ | refine CallG.same _ (h4) rfl ?_ | refine CallK.pv (h4) rfl rfl ?_
      simp -implicitDefEqProofs
      refine LoopK.nil (.cl 2 3 39 12) ?_
      simp -implicitDefEqProofs
      refine LoopK.os (fun k : Nat => [(1, .int .i64 t), (4, .ptr 0 0), (7, .ptr 1 0), (28, .im (.sl 12 (p.evs.map Ev.iv))), (29, .int .i64 p.evs.length), (30, .int .i64 k)])
        (fun k => [.box 28 [.im (.sc (.slice none 0 0)), .im (.sc (.slice none 0 0)), .int .i64 0, .im (.sc (.slice none 0 0))], .box 28 [.im (.sl 4 (N.seats.map Seat.iv)), .im (.sl 4 (N.routers.map Router.iv)), .int .i64 t, .row 2], evsO (after t (p.evs.take k))])
        (fun k => k ≤ p.evs.length) (fun k => p.evs.length - k) 0 [1, 2, 3] (Nat.zero_le _) (by simp [after_nil]) ?_
      intro k hk
      by_cases hlt : k < p.evs.length
      · have e1 : IntKind.i64.wrap (k + 1) = (k + 1 : Nat) := wrap64 (by omega) (by omega)
        obtain ⟨E, hE⟩ : ∃ E, p.evs[k] = E := ⟨_, rfl⟩
        have ht := after_take t p.evs k hlt
        rw [hE] at ht
        have hal := after_len t (p.evs.take k)
        rw [List.length_take] at hal
        simp -implicitDefEqProofs [hlt, hE]
        refine ⟨fun h => ⟨⟨by omega, by unfold maxLen; omega⟩, ?_⟩, fun h => ?_⟩
        · rw [if_pos h] at ht
          refine Again.os (k + 1) [0, 1, 5] hlt (by omega) ?_
          simp -implicitDefEqProofs [e1, ht]
        · rw [if_neg (by omega)] at ht
          refine Again.os (k + 1) [0, 1, 2] hlt (by omega) ?_
          simp -implicitDefEqProofs [e1, ht]
      · have hkk : k = p.evs.length := by omega
        subst hkk
        simp -implicitDefEqProofs
        refine EndZ.ret [2] (.tup [.agg [.im (.sl 4 (N.seats.map Seat.iv)), .im (.sl 4 (N.routers.map Router.iv)), .int .i64 t, .row 2], .int .i64 0]) (by simp) ?_
        simp -implicitDefEqProofs
    · rw [hr]
      generalize askT p t = W at *
      refine FSpec.of_z (q := []) Tryz.func18 (by kernel_rfl) rfl Tryz.ntmps18 Tryz.results18 hP (by kernel_rfl) (by simp) (by first | rfl | simp) ?_
      simp -implicitDefEqProofs
      first | refine CallK.same (h1) rfl rfl ?_ | refine CallQ.same (h1) rfl rfl ?_ | refine CallQG.same _ (h1) rfl ?_ | refine CallG.same _ (h1) rfl ?_ | refine CallK.pv (h1) rfl rfl ?_
      simp -implicitDefEqProofs
      first | refine CallK.same (h2) rfl rfl ?_ | refine CallQ.same (h2) rfl rfl ?_ | refine CallQG.same _ (h2) rfl ?_ | refine CallG.same _ (h2) rfl ?_ | refine CallK.pv (h2) rfl rfl ?_
      simp -implicitDefEqProofs [b0]
      first | refine CallK.same (h3) rfl rfl ?_ | refine CallQ.same (h3) rfl rfl ?_ | refine CallQG.same _ (h3) rfl ?_ | refine CallG.same _ (h3) rfl ?_ | refine CallK.pv (h3) rfl rfl ?_
      simp -implicitDefEqProofs
      refine EndZ.ret [] (.tup [p.av, .int .i64 W]) (by simp) ?_
      simp -implicitDefEqProofs
end Go.Am


set_option linter.unusedVariables false
set_option linter.unusedSimpArgs false
set_option pp.deepTerms false
set_option pp.deepTerms.threshold 40
namespace Go.Am
open Go.Proofs

set_option maxRecDepth 8000 in
set_option maxHeartbeats 4000000 in
theorem pastTakes_spec (p : Past) (e : Ev) (t : Int) (hw : p.wf) (hsq : 0 ≤ e.seq) (hew : e.pfx.addr.wf) (b1 : p.base.seats.length ≤ 100000000) (b2 : p.base.routers.length ≤ 100000000) (b3 : ∀ r ∈ p.base.routers, r.routes.length ≤ 100000000 ∧ r.links.length ≤ 100000000) (b4 : p.evs.length ≤ 100000000) :
    FSpec Tryz.prog 3 [p.av, e.av, .int .i64 t] [] (.bool true) [] := by
  have hc := copyP_spec p b1 b2 b3 b4
  have h1 := takePo_spec p e (Past.wf_seq hw) hsq
  have h2 := takePr_spec p e hw hsq hew
  have h3 := retO_spec p t (Past.wf_seq hw)
  have h4 := retainPr_spec p t hw
  have h5 := weightP_spec p (Past.wf_seq hw)
  have h6 := weightPr_spec p hw
  have h7 := checkP_spec_ p (Past.wf_seq hw)
  have h8 := checkPr21_spec p hw
  have hs := same21_spec
  generalize takeP p e = A at *
  generalize retainP p t = B at *
  generalize (if okP p = true then weightF p else 0) = W at *
  generalize (if okP p = true then (0 : Int) else 2) = V at *
  refine FSpec.of_flat (q := [(8, .n 41)]) Tryz.func3 (by kernel_rfl) rfl Tryz.ntmps3 Tryz.results3 hP (by kernel_rfl) (by simp) (by first | rfl | simp) ?_
  simp -implicitDefEqProofs
  first | refine CallK.same (hc) rfl rfl ?_ | refine CallQ.same (hc) rfl rfl ?_ | refine CallQG.same _ (hc) rfl ?_ | refine CallG.same _ (hc) rfl ?_ | refine CallK.pv (hc) rfl rfl ?_
  simp -implicitDefEqProofs
  first | refine CallK.same (h1) rfl rfl ?_ | refine CallQ.same (h1) rfl rfl ?_ | refine CallQG.same _ (h1) rfl ?_ | refine CallG.same _ (h1) rfl ?_ | refine CallK.pv (h1) rfl rfl ?_
  simp -implicitDefEqProofs
  first | refine CallK.same (h2) rfl rfl ?_ | refine CallQ.same (h2) rfl rfl ?_ | refine CallQG.same _ (h2) rfl ?_ | refine CallG.same _ (h2) rfl ?_ | refine CallK.pv (h2) rfl rfl ?_
  simp -implicitDefEqProofs
  first | refine CallK.same (h3) rfl rfl ?_ | refine CallQ.same (h3) rfl rfl ?_ | refine CallQG.same _ (h3) rfl ?_ | refine CallG.same _ (h3) rfl ?_ | refine CallK.pv (h3) rfl rfl ?_
  simp -implicitDefEqProofs
  first | refine CallK.same (h4) rfl rfl ?_ | refine CallQ.same (h4) rfl rfl ?_ | refine CallQG.same _ (h4) rfl ?_ | refine CallG.same _ (h4) rfl ?_ | refine CallK.pv (h4) rfl rfl ?_
  simp -implicitDefEqProofs
  first | refine CallK.same (h5) rfl rfl ?_ | refine CallQ.same (h5) rfl rfl ?_ | refine CallQG.same _ (h5) rfl ?_ | refine CallG.same _ (h5) rfl ?_ | refine CallK.pv (h5) rfl rfl ?_
  simp -implicitDefEqProofs
  first | refine CallK.same (h6) rfl rfl ?_ | refine CallQ.same (h6) rfl rfl ?_ | refine CallQG.same _ (h6) rfl ?_ | refine CallG.same _ (h6) rfl ?_ | refine CallK.pv (h6) rfl rfl ?_
  simp -implicitDefEqProofs
  first | refine CallK.same (lives21_spec) rfl rfl ?_ | refine CallQ.same (lives21_spec) rfl rfl ?_ | refine CallQG.same _ (lives21_spec) rfl ?_ | refine CallG.same _ (lives21_spec) rfl ?_ | refine CallK.pv (lives21_spec) rfl rfl ?_
  simp -implicitDefEqProofs
  first | refine CallK.same (h7) rfl rfl ?_ | refine CallQ.same (h7) rfl rfl ?_ | refine CallQG.same _ (h7) rfl ?_ | refine CallG.same _ (h7) rfl ?_ | refine CallK.pv (h7) rfl rfl ?_
  simp -implicitDefEqProofs
  first | refine CallK.same (h8) rfl rfl ?_ | refine CallQ.same (h8) rfl rfl ?_ | refine CallQG.same _ (h8) rfl ?_ | refine CallG.same _ (h8) rfl ?_ | refine CallK.pv (h8) rfl rfl ?_
  simp -implicitDefEqProofs
  first | refine CallK.same (hs A.1) rfl rfl ?_ | refine CallQ.same (hs A.1) rfl rfl ?_ | refine CallQG.same _ (hs A.1) rfl ?_ | refine CallG.same _ (hs A.1) rfl ?_ | refine CallK.pv (hs A.1) rfl rfl ?_
  simp -implicitDefEqProofs
  first | refine CallK.same (hs B.1) rfl rfl ?_ | refine CallQ.same (hs B.1) rfl rfl ?_ | refine CallQG.same _ (hs B.1) rfl ?_ | refine CallG.same _ (hs B.1) rfl ?_ | refine CallK.pv (hs B.1) rfl rfl ?_
  simp -implicitDefEqProofs
  first | refine CallK.same (hs p) rfl rfl ?_ | refine CallQ.same (hs p) rfl rfl ?_ | refine CallQG.same _ (hs p) rfl ?_ | refine CallG.same _ (hs p) rfl ?_ | refine CallK.pv (hs p) rfl rfl ?_
  simp -implicitDefEqProofs
  refine CallG.on ?_
  first | refine CallK.same (makePo_spec) rfl rfl ?_ | refine CallQ.same (makePo_spec) rfl rfl ?_ | refine CallQG.same _ (makePo_spec) rfl ?_ | refine CallG.same _ (makePo_spec) rfl ?_ | refine CallK.pv (makePo_spec) rfl rfl ?_
  simp -implicitDefEqProofs
  refine CallG.on ?_
  first | refine CallK.same (makePr_spec) rfl rfl ?_ | refine CallQ.same (makePr_spec) rfl rfl ?_ | refine CallQG.same _ (makePr_spec) rfl ?_ | refine CallG.same _ (makePr_spec) rfl ?_ | refine CallK.pv (makePr_spec) rfl rfl ?_
  simp -implicitDefEqProofs
  refine CallG.on ?_
  first | refine CallK.same (hs ⟨⟨[], []⟩, -1, []⟩) rfl rfl ?_ | refine CallQ.same (hs ⟨⟨[], []⟩, -1, []⟩) rfl rfl ?_ | refine CallQG.same _ (hs ⟨⟨[], []⟩, -1, []⟩) rfl ?_ | refine CallG.same _ (hs ⟨⟨[], []⟩, -1, []⟩) rfl ?_ | refine CallK.pv (hs ⟨⟨[], []⟩, -1, []⟩) rfl rfl ?_
  simp -implicitDefEqProofs
end Go.Am


set_option linter.unusedVariables false
set_option linter.unusedSimpArgs false
set_option pp.deepTerms false
set_option pp.deepTerms.threshold 40
namespace Go.Am
open Go.Proofs

theorem bulkRows_mem : ∀ {l : List (List IV)} {x : List IV}, x ∈ l → IV.bulkRow x ≤ IV.bulkRows l
  | [], _, h => by cases h
  | y :: l, x, h => by
    simp only [IV.bulkRows]
    rcases List.mem_cons.1 h with rfl | h
    · omega
    · have := bulkRows_mem h; omega
theorem bulk_rows {α : Type} (iv : α → List IV) (h : ∀ a, iv a ≠ []) (l : List α) : l.length ≤ IV.bulkRows (l.map iv) := by
  have := IV.bulkRows_len (l := l.map iv) fun y hy e => by
    obtain ⟨a, _, rfl⟩ := List.mem_map.1 hy
    exact h a e
  simpa using this
theorem past_bulk {y : List IV} {p : Past} (e : y.map AV.im = [.im (.sl 4 (p.base.seats.map Seat.iv)), .im (.sl 4 (p.base.routers.map Router.iv)), .int .i64 p.hz, .im (.sl 12 (p.evs.map Ev.iv))]) (hb : IV.bulkRow y ≤ 1048576) :
    p.base.seats.length ≤ 100000000 ∧ p.base.routers.length ≤ 100000000 ∧ (∀ r ∈ p.base.routers, r.routes.length ≤ 100000000 ∧ r.links.length ≤ 100000000) ∧ p.evs.length ≤ 100000000 := by
  have hy : y = [.sl 4 (p.base.seats.map Seat.iv), .sl 4 (p.base.routers.map Router.iv), .sc (.int .i64 p.hz), .sl 12 (p.evs.map Ev.iv)] := by
    have hinj : ∀ a b : IV, AV.im a = AV.im b → a = b := fun a b h => by cases h; rfl
    have e' : y.map AV.im = [IV.sl 4 (p.base.seats.map Seat.iv), .sl 4 (p.base.routers.map Router.iv), .sc (.int .i64 p.hz), .sl 12 (p.evs.map Ev.iv)].map AV.im := e
    exact (List.map_inj_right hinj).1 e'
  subst hy
  simp only [IV.bulkRow, IV.bulk] at hb
  have h1 := bulk_rows Seat.iv (fun a => by simp) p.base.seats
  have h2 := bulk_rows Router.iv (fun a => by simp) p.base.routers
  have h3 := bulk_rows Ev.iv (fun a => by simp) p.evs
  refine ⟨by omega, by omega, fun r hr => ?_, by omega⟩
  have h4 := bulkRows_mem (List.mem_map.2 ⟨r, hr, rfl⟩ : Router.iv r ∈ p.base.routers.map Router.iv)
  have h5 := bulk_rows Route.iv (fun a => by simp) r.routes
  have h6 := bulk_rows Link.iv (fun a => by simp) r.links
  simp only [Router.iv, IV.bulkRow, IV.bulk] at h4
  omega
theorem args_takes {xs : List (List IV)} (h : hasArgs [pastSh, evSh, [.int .i64]] xs) (hB : IV.bulkRows xs ≤ 1048576) : ∃ (p : Past) (e : Ev) (t : Int), p.wf ∧ (0 ≤ e.seq ∧ e.pfx.addr.wf) ∧ (p.base.seats.length ≤ 100000000 ∧ p.base.routers.length ≤ 100000000 ∧ (∀ r ∈ p.base.routers, r.routes.length ≤ 100000000 ∧ r.links.length ≤ 100000000) ∧ p.evs.length ≤ 100000000) ∧
    argsAV Tryz.prog [28, 39, 2] xs = [p.av, e.av, .int .i64 t] := by
  obtain ⟨x, _, rfl, hx, h⟩ := hasArgs_cons h
  obtain ⟨y, _, rfl, hy, h⟩ := hasArgs_cons h
  obtain ⟨z, _, rfl, hz, h⟩ := hasArgs_cons h
  cases h
  obtain ⟨p, hp, ep⟩ := past_of x hx
  obtain ⟨e, he, ee⟩ := ev_arg y hy
  obtain ⟨t, et⟩ := int_arg z hz
  simp only [IV.bulkRows] at hB
  refine ⟨p, e, t, hp, he, past_bulk ep (by omega), ?_⟩
  simp only [argsAV, ee, et]
  simp only [argAV, Tryz.underlying28, ep]
  rfl
end Go.Am

