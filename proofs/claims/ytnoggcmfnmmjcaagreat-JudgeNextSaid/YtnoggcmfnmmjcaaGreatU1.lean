import Derived.Test.YtnoggcmfnmmjcaaGreatT6
set_option linter.unusedVariables false
set_option linter.unusedSimpArgs false
set_option pp.deepTerms false
set_option pp.deepTerms.threshold 40
namespace Go.Am
open Go.Proofs

/-! ### which routers' fates differ: the document -/
def firstV (l : List Fate) (r : Int) : Verd := (firstF l r).getD ⟨0, 0⟩
theorem firstF_none {l : List Fate} {r : Int} : firstF l r = none ↔ ∀ f ∈ l, f.router ≠ r := by
  induction l with
  | nil => simp [firstF]
  | cons f l ih =>
    rw [firstF]
    by_cases h : f.router = r
    · simp [h]
    · simp [h, ih]
theorem firstF_step (l : List Fate) (r : Int) (k : Nat) (h : k < l.length) (hn : ∀ f ∈ l.take k, f.router ≠ r) :
    (l[k].router = r → firstF l r = some l[k].v) ∧ (l[k].router ≠ r → ∀ f ∈ l.take (k + 1), f.router ≠ r) := by
  constructor
  · intro hr
    have : ∀ (l : List Fate) (k : Nat) (h : k < l.length), (∀ f ∈ l.take k, f.router ≠ r) → l[k].router = r → firstF l r = some l[k].v := by
      intro l
      induction l with
      | nil => intro k h; simp at h
      | cons f l ih =>
        intro k h hn hr
        cases k with
        | zero => simp at hr; simp [firstF, hr]
        | succ k =>
          have hf : f.router ≠ r := hn f (by simp)
          rw [firstF, if_neg hf]
          exact ih k (by simpa using h) (fun g hg => hn g (by simp [hg])) (by simpa using hr)
    exact this l k h hn hr
  · intro hr f hf
    rw [List.take_add_one, List.getElem?_eq_getElem h] at hf
    rcases List.mem_append.1 hf with hf | hf
    · exact hn f hf
    · simp at hf; subst hf; exact hr
theorem first24_spec (l : List Fate) (r : Int) : FSpec Tryz.prog 58 [.im (.sl 3 (l.map Fate.iv)), .int .i64 r] [] (.tup [(firstV l r).av, .bool (firstF l r).isSome]) [] := by
  refine FSpec.bd (enters_of Tryz.func58 (by kernel_rfl) rfl) fun hbd => ?_
  have hl : l.length ≤ 9223372036854775807 := by simp [maxLen] at hbd; exact hbd
  refine FSpec.of_z (q := []) Tryz.func58 (by kernel_rfl) rfl Tryz.ntmps58 Tryz.results58 hP (by kernel_rfl) (by simp) (by first | rfl | simp) ?_
  simp
  refine LoopK.os (fun k : Nat => [(1, .int .i64 r), (4, .ptr 0 0), (8, .im (.sl 3 (l.map Fate.iv))), (9, .int .i64 l.length), (10, .int .i64 k)])
    (fun _ => [.box 46 [.int .u8 0, .int .i64 0]])
    (fun k => k ≤ l.length ∧ ∀ f ∈ l.take k, f.router ≠ r) (fun k => l.length - k) 0 [0] ⟨Nat.zero_le _, by simp⟩ (by simp) ?_
  rintro k ⟨hk, hn⟩
  by_cases hlt : k < l.length
  · have e1 : IntKind.i64.wrap (k + 1) = (k + 1 : Nat) := wrap64 (by omega) (by omega)
    have hg := List.getElem?_eq_getElem hlt
    obtain ⟨s1, s2⟩ := firstF_step l r k hlt hn
    simp [hlt, hg, e1]
    refine ⟨fun h => ?_, fun h => ?_⟩
    · have hf := s1 h
      refine EndZ.ret [] (.tup [l[k].v.av, .bool true]) (by simp) ?_
      simp [firstV, hf]
    · refine Again.os (k + 1) [0] ⟨hlt, s2 h⟩ (by omega) ?_
      simp
  · have hkk : k = l.length := by omega
    subst hkk
    rw [List.take_length] at hn
    have hf := firstF_none.2 hn
    simp
    refine EndZ.ret [] (.tup [.agg [.int .u8 0, .int .i64 0], .bool false]) (by simp) ?_
    simp [firstV, hf]
/-- A number put into a row. -/
def putI (D : List Int) (i : Nat) (r : Int) : List Int := D.take i ++ r :: D.drop i
theorem putI_len (D : List Int) (i : Nat) (r : Int) (h : i ≤ D.length) : (putI D i r).length = D.length + 1 := by simp [putI]; omega
theorem putI_mem (D : List Int) (i : Nat) (r x : Int) : x ∈ putI D i r ↔ x ∈ D ∨ x = r := by
  unfold putI
  conv => rhs; rw [← List.take_append_drop i D]
  simp only [List.mem_append, List.mem_cons]
  grind
theorem putI_sorted {D : List Int} {i : Nat} {r : Int} (hD : D.Pairwise (· < ·)) (h1 : ∀ x ∈ D.take i, x < r) (h2 : ∀ x ∈ D.drop i, r < x) : (putI D i r).Pairwise (· < ·) := by
  unfold putI
  have h := hD
  rw [← List.take_append_drop i D, List.pairwise_append] at h
  rw [List.pairwise_append]
  refine ⟨h.1, List.pairwise_cons.2 ⟨h2, h.2.1⟩, fun x hx y hy => ?_⟩
  rcases List.mem_cons.1 hy with rfl | hy
  · exact h1 x hx
  · exact h.2.2 x hx y hy
theorem modL {α : Type} : ∀ (A : List α) (x : α) (B : List α) (f : α → α), (A ++ x :: B).modify A.length f = A ++ f x :: B
  | [], x, B, f => rfl
  | a :: A, x, B, f => by
    have := modL A x B f
    simp only [List.cons_append, List.length_cons, List.modify_succ_cons]
    rw [this]
theorem rowI_put (D : List Int) (i : Nat) (r : Int) (m m' q : Nat) (h : i ≤ D.length) (hm : m = D.length - i) (hm' : m' = D.length + 1 - i) (hq : q = D.length + 1) :
    (List.take (i + 1) (rowI D ++ [[IV.sc (.int .i64 0)]]) ++ (List.take m (List.take m' (List.drop i (rowI D ++ [[IV.sc (.int .i64 0)]]))) ++ List.drop q (rowI D ++ [[IV.sc (.int .i64 0)]]))).modify i (fun x => IV.sc (.int .i64 r) :: x.tail) = rowI (putI D i r) := by
  subst hm hm' hq
  have e0 : (rowI D ++ [[IV.sc (.int .i64 0)]]) = (D ++ [0]).map fun x => [IV.sc (.int .i64 x)] := by simp [rowI]
  have e1 : List.take (D.length - i) (List.take (D.length + 1 - i) (List.drop i (D ++ [0]))) = List.drop i D := by
    rw [List.take_take, Nat.min_eq_left (by omega), List.drop_append, List.take_append]
    simp
    rw [List.take_of_length_le (by simp)]
  have e2 : List.drop (D.length + 1) (D ++ [0]) = [] := by simp
  rw [e0, ← List.map_drop, ← List.map_take, ← List.map_take, ← List.map_take, ← List.map_drop, e1, e2]
  have e3 : ∃ z, List.take (i + 1) (D ++ [0]) = List.take i D ++ [z] := by
    have hl : i < (D ++ [0]).length := by simp; omega
    refine ⟨(D ++ [0])[i], ?_⟩
    rw [List.take_add_one, List.getElem?_eq_getElem hl, List.take_append]
    simp
    omega
  obtain ⟨z, e3⟩ := e3
  rw [e3, putI]
  have hti : (List.take i D).length = i := by simp; omega
  simp only [rowI, List.map_append, List.map_cons, List.map_nil, List.append_nil, List.append_assoc, List.singleton_append]
  have hmod := modL (List.map (fun x => [IV.sc (.int .i64 x)]) (List.take i D)) [IV.sc (.int .i64 z)] (List.map (fun x => [IV.sc (.int .i64 x)]) (List.drop i D)) (fun x => IV.sc (.int .i64 r) :: x.tail)
  rw [List.length_map, hti] at hmod
  exact hmod
end Go.Am

set_option linter.unusedVariables false
set_option linter.unusedSimpArgs false
set_option pp.deepTerms false
set_option pp.deepTerms.threshold 40
namespace Go.Am
open Go.Proofs

def seenF (L : List Fate) (a b : List Fate) (r : Int) : Prop := (∃ f ∈ L, f.router = r) ∧ firstF a r ≠ firstF b r
theorem seenF_all (a b : List Fate) (r : Int) : seenF (a ++ b) a b r ↔ firstF a r ≠ firstF b r := by
  constructor
  · exact fun h => h.2
  · intro h
    refine ⟨?_, h⟩
    apply Classical.byContradiction
    intro hn
    have h1 : firstF a r = none := firstF_none.2 fun f hf e => hn ⟨f, by simp [hf], e⟩
    have h2 : firstF b r = none := firstF_none.2 fun f hf e => hn ⟨f, by simp [hf], e⟩
    exact h (by rw [h1, h2])
theorem seenF_step (L a b : List Fate) (k : Nat) (h : k < L.length) (r : Int) : seenF (L.take (k + 1)) a b r ↔ seenF (L.take k) a b r ∨ (r = L[k].router ∧ firstF a r ≠ firstF b r) := by
  unfold seenF
  rw [List.take_add_one, List.getElem?_eq_getElem h]
  simp only [Option.toList_some, List.mem_append, List.mem_singleton]
  constructor
  · rintro ⟨⟨f, hf | hf, e⟩, h2⟩
    · exact .inl ⟨⟨f, hf, e⟩, h2⟩
    · subst hf; exact .inr ⟨e.symm, h2⟩
  · rintro (⟨⟨f, hf, e⟩, h2⟩ | ⟨e, h2⟩)
    · exact ⟨⟨f, .inl hf, e⟩, h2⟩
    · exact ⟨⟨L[k], .inr rfl, e.symm⟩, h2⟩
theorem firstF_eq (a b : List Fate) (r : Int) (hr : (firstF a r).isSome = true ∨ (firstF b r).isSome = true) :
    (firstF a r = firstF b r) ↔ (firstF a r).isSome = true ∧ (firstF b r).isSome = true ∧ (firstV a r).kind = (firstV b r).kind ∧ (firstV a r).at_ = (firstV b r).at_ := by
  unfold firstV
  cases h1 : firstF a r with
  | none =>
    cases h2 : firstF b r with
    | none => simp [h1, h2] at hr
    | some v => simp
  | some u =>
    cases h2 : firstF b r with
    | none => simp
    | some v =>
      have := verd_ne u v
      simp only [Option.some.injEq, Option.isSome_some, Option.getD_some, true_and]
      constructor
      · rintro rfl; exact ⟨rfl, rfl⟩
      · intro h; exact Classical.byContradiction fun hn => this.1 hn h
theorem fates_get (L : List Fate) (k : Nat) (h : k < L.length) : (L.map Fate.iv)[k]? = some L[k].iv := by simp [h]
set_option maxRecDepth 8000 in
set_option maxHeartbeats 1000000 in
theorem differR_spec (a b : List Fate) (ha : a.length ≤ 100000000) (hb : b.length ≤ 100000000) (D : List Int) (hD : D.Pairwise (· < ·)) (hm : ∀ r, r ∈ D ↔ firstF a r ≠ firstF b r) :
    FSpec Tryz.prog 23 [.im (.sl 3 (a.map Fate.iv)), .im (.sl 3 (b.map Fate.iv))] [] (.im (.sl 1 (rowI D))) [] := by
  refine FSpec.of_z (q := [(9, .n 10), (11, .n 10), (13, .n 7)]) Tryz.func23 (by kernel_rfl) rfl Tryz.ntmps23 Tryz.results23 hP (by kernel_rfl) (by simp) (by first | rfl | simp) ?_
  simp
  refine ⟨⟨by omega, by unfold maxLen; omega⟩, ⟨by omega, by unfold maxLen; omega⟩, ?_⟩
  rw [← List.map_append, show (a.length : Int) + b.length = ((a ++ b).length : Nat) by simp]
  have hL : (a ++ b).length ≤ 200000000 := by simp; omega
  have hmem : ∀ f ∈ a ++ b, (firstF a f.router).isSome = true ∨ (firstF b f.router).isSome = true := fun f hf => by
    rcases List.mem_append.1 hf with hf | hf
    · refine .inl ?_
      cases h : firstF a f.router with
      | none => exact absurd rfl (firstF_none.1 h f hf)
      | some v => rfl
    · refine .inr ?_
      cases h : firstF b f.router with
      | none => exact absurd rfl (firstF_none.1 h f hf)
      | some v => rfl
  have hall := seenF_all a b
  generalize a ++ b = L at hL hmem hall ⊢
  refine LoopK.nil (.fz [2]) ?_
  simp
  refine LoopK.nil (.sl 5 3 1) ?_
  simp
  refine LoopK.os (fun g : Nat × List Int => [(0, .im (.sl 3 (a.map Fate.iv))), (1, .im (.sl 3 (b.map Fate.iv))), (5, .row 0), (17, .im (.sl 3 (L.map Fate.iv))), (18, .int .i64 L.length), (19, .int .i64 g.1)])
    (fun g => [.row 3 1 (rowI g.2)])
    (fun g => g.1 ≤ L.length ∧ g.2.length ≤ g.1 ∧ g.2.Pairwise (· < ·) ∧ ∀ r, r ∈ g.2 ↔ seenF (L.take g.1) a b r) (fun g => L.length - g.1) (0, []) [3] ⟨Nat.zero_le _, by simp, by simp, by simp [seenF]⟩ (by simp [rowI]) ?_
  rintro ⟨k, E⟩ ⟨hk, hEl, hE, hR⟩
  simp only at hk hEl hE hR
  by_cases hlt : k < L.length
  · have e1 : IntKind.i64.wrap (k + 1) = (k + 1 : Nat) := wrap64 (by omega) (by omega)
    have hg := fates_get L k hlt
    have hstep := seenF_step L a b k hlt
    have hm1 := hmem L[k] (by simp)
    have heq := firstF_eq a b L[k].router hm1
    obtain ⟨f, hf⟩ : ∃ f, L[k] = f := ⟨_, rfl⟩
    simp only [hf] at hg hstep hm1 heq
    simp -implicitDefEqProofs [hlt, hf, e1]
    first | refine CallK.same (first24_spec a f.router) rfl rfl ?_ | refine CallQ.same (first24_spec a f.router) rfl rfl ?_ | refine CallQG.same _ (first24_spec a f.router) rfl ?_ | refine CallG.same _ (first24_spec a f.router) rfl ?_ | refine CallK.pv (first24_spec a f.router) rfl rfl ?_
    simp -implicitDefEqProofs
    first | refine CallK.same (first24_spec b f.router) rfl rfl ?_ | refine CallQ.same (first24_spec b f.router) rfl rfl ?_ | refine CallQG.same _ (first24_spec b f.router) rfl ?_ | refine CallG.same _ (first24_spec b f.router) rfl ?_ | refine CallK.pv (first24_spec b f.router) rfl rfl ?_
    simp -implicitDefEqProofs
    refine ⟨fun h1 h2 h3 h4 => ?_, fun h => ?_⟩
    · have he := heq.2 ⟨h1, h2, h3, h4⟩
      refine Again.os (k + 1, E) [0] ⟨hlt, by show E.length ≤ k + 1; omega, hE, fun r => ?_⟩ (by show L.length - (k + 1) < L.length - k; omega) ?_
      · show r ∈ E ↔ seenF (L.take (k + 1)) a b r
        rw [hstep, hR]
        exact ⟨.inl, fun h => h.elim id fun ⟨e, h'⟩ => by subst e; exact absurd he h'⟩
      · simp -implicitDefEqProofs [e1]
    · have hne : firstF a f.router ≠ firstF b f.router := fun e => by
        obtain ⟨h1, h2, h3, h4⟩ := heq.1 e
        exact h h1 h2 h3 h4
      refine LoopK.os (fun i : Nat => [(0, .im (.sl 3 (a.map Fate.iv))), (1, .im (.sl 3 (b.map Fate.iv))), (5, .row 0), (7, .ptr 1 0), (12, .int .i64 i), (17, .im (.sl 3 (L.map Fate.iv))), (18, .int .i64 L.length), (19, .int .i64 k)])
        (fun _ => [.row 3 1 (rowI E), .box 48 [.int .i64 f.router, .int .u8 f.v.kind, .int .i64 f.v.at_]])
        (fun i => i ≤ E.length ∧ ∀ x ∈ E.drop i, f.router < x) (fun i => i) E.length [0, 1] ⟨Nat.le_refl _, by simp⟩ (by simp) ?_
      rintro i ⟨hi, hx⟩
      have fin : ∀ hxi : ∀ x ∈ E.take i, x < f.router, (putI E i f.router).Pairwise (· < ·) ∧ ∀ r, r ∈ putI E i f.router ↔ seenF (L.take (k + 1)) a b r := fun hxi =>
        ⟨putI_sorted hE hxi hx, fun r => by
          rw [putI_mem, hstep, hR]
          exact or_congr Iff.rfl ⟨fun e => ⟨e, e ▸ hne⟩, fun e => e.1⟩⟩
      cases i with
      | zero =>
        have em : IntKind.i64.wrap (-1) = -1 := by decide
        have ew : IntKind.i64.wrap 1 = 1 := by decide
        have h0 : (rowI E)[0]? = none ∨ ∃ z, (rowI E)[0]? = some [.sc (.int .i64 z)] := by
          cases E with
          | nil => exact .inl rfl
          | cons x E => exact .inr ⟨x, rfl⟩
        have hp := rowI_put E 0 f.router E.length (E.length + 1) (1 + E.length) hi rfl rfl (by omega)
        simp -implicitDefEqProofs at hp
        rcases h0 with h0 | ⟨z, h0⟩
        · simp -implicitDefEqProofs [em, ew, h0, show 1 + E.length ≤ E.length + 1 by omega]
          refine ⟨⟨by omega, by unfold maxLen; omega⟩, by omega, by omega, by omega, by omega, ?_⟩
          refine Again.os (k + 1, putI E 0 f.router) [3] ⟨hlt, by show (putI E 0 f.router).length ≤ k + 1; rw [putI_len _ _ _ hi]; omega, (fin (by simp)).1, (fin (by simp)).2⟩ (by show L.length - (k + 1) < L.length - k; omega) ?_
          simp -implicitDefEqProofs [e1, hp]
        · simp -implicitDefEqProofs [em, ew, h0, show 1 + E.length ≤ E.length + 1 by omega]
          refine ⟨⟨by omega, by unfold maxLen; omega⟩, by omega, by omega, by omega, by omega, ?_⟩
          refine Again.os (k + 1, putI E 0 f.router) [3] ⟨hlt, by show (putI E 0 f.router).length ≤ k + 1; rw [putI_len _ _ _ hi]; omega, (fin (by simp)).1, (fin (by simp)).2⟩ (by show L.length - (k + 1) < L.length - k; omega) ?_
          simp -implicitDefEqProofs [e1, hp]
      | succ j =>
        have ej : IntKind.i64.wrap (j : Int) = (j : Int) := wrap64 (by omega) (by omega)
        have hgj : (rowI E)[j]? = some [.sc (.int .i64 E[j])] := by simp [rowI, show j < E.length by omega]
        have hjl : (j : Int) < E.length := by omega
        have e3 : IntKind.i64.wrap ((j : Int) + 1 + 1) = ((j + 2 : Nat) : Int) := by rw [wrap64 (by omega) (by omega)]; omega
        simp -implicitDefEqProofs [ej, hgj, show j < E.length by omega, e3, show j + 1 + (E.length - j) ≤ E.length + 1 by omega, show ((j : Int) + 2).toNat = j + 2 by omega, show j + 2 + (E.length - (j + 1)) ≤ E.length + 1 by omega, show min (E.length - j) (E.length - (j + 1)) = E.length - (j + 1) by omega]
        refine ⟨fun hgt => ?_, fun hle => ⟨fun heqj => ?_, fun hnj => ⟨⟨by omega, by unfold maxLen; omega⟩, by omega, by omega, ?_⟩⟩⟩
        · refine Again.os j [0, 1] ⟨by show j ≤ E.length; omega, fun x hxm => ?_⟩ (Nat.lt_succ_self j) ?_
          · rw [List.drop_eq_getElem_cons (show j < E.length by omega)] at hxm
            rcases List.mem_cons.1 hxm with rfl | hxm
            · exact hgt
            · exact hx x hxm
          · simp -implicitDefEqProofs
        · refine Again.os (k + 1, E) [0] ⟨hlt, by show E.length ≤ k + 1; omega, hE, fun r => ?_⟩ (by show L.length - (k + 1) < L.length - k; omega) ?_
          · show r ∈ E ↔ seenF (L.take (k + 1)) a b r
            rw [hstep, hR]
            exact ⟨.inl, fun h => h.elim id fun ⟨e, h'⟩ => by rw [e, ← hR, ← heqj]; exact List.getElem_mem _⟩
          · simp -implicitDefEqProofs [e1]
        · have hxi : ∀ x ∈ E.take (j + 1), x < f.router := fun x hxm => by
            have h1 := hE
            rw [← List.take_append_drop j E, List.drop_eq_getElem_cons (show j < E.length by omega), List.pairwise_append] at h1
            rw [List.take_add_one, List.getElem?_eq_getElem (show j < E.length by omega)] at hxm
            rcases List.mem_append.1 hxm with hxm | hxm
            · have := h1.2.2 x hxm E[j] List.mem_cons_self
              omega
            · simp at hxm
              omega
          have hp := rowI_put E (j + 1) f.router (E.length - (j + 1)) (E.length - j) (j + 2 + (E.length - (j + 1))) hi rfl (by omega) (by omega)
          refine ⟨by omega, by omega, ?_⟩
          refine Again.os (k + 1, putI E (j + 1) f.router) [3] ⟨hlt, by show (putI E (j + 1) f.router).length ≤ k + 1; rw [putI_len _ _ _ hi]; omega, (fin hxi).1, (fin hxi).2⟩ (by show L.length - (k + 1) < L.length - k; omega) ?_
          simp -implicitDefEqProofs [e1, hp]
  · have hkk : k = L.length := by omega
    subst hkk
    rw [List.take_length] at hR
    have hED : E = D := sorted_eq ((List.perm_ext_iff_of_nodup (hE.imp fun h => by omega) (hD.imp fun h => by omega)).2 fun r => by rw [hR, hall, hm]) (hE.imp fun h => by omega) (hD.imp fun h => by omega)
    subst hED
    simp -implicitDefEqProofs
    refine EndZ.ret [0] (.row 0) (by simp) (by simp)
end Go.Am

set_option linter.unusedVariables false
set_option linter.unusedSimpArgs false
set_option pp.deepTerms false
set_option pp.deepTerms.threshold 40
namespace Go.Am
open Go.Proofs

/-! ### the law JudgeCounts -/
theorem pick_of (Q : Int → Prop) : ∀ L : List Int, ∃ M : List Int, M.Nodup ∧ ∀ x, x ∈ M ↔ x ∈ L ∧ Q x
  | [] => ⟨[], List.nodup_nil, by simp⟩
  | y :: L => by
    obtain ⟨M, hM, h⟩ := pick_of Q L
    by_cases hy : Q y ∧ y ∉ M
    · refine ⟨y :: M, List.nodup_cons.2 ⟨hy.2, hM⟩, fun x => ?_⟩
      rw [List.mem_cons, List.mem_cons, h]
      constructor
      · rintro (rfl | ⟨h1, h2⟩)
        · exact ⟨.inl rfl, hy.1⟩
        · exact ⟨.inr h1, h2⟩
      · rintro ⟨rfl | h1, h2⟩
        · exact .inl rfl
        · exact .inr ⟨h1, h2⟩
    · refine ⟨M, hM, fun x => ?_⟩
      rw [List.mem_cons, h]
      constructor
      · rintro ⟨h1, h2⟩; exact ⟨.inr h1, h2⟩
      · rintro ⟨rfl | h1, h2⟩
        · apply Classical.byContradiction
          intro hn
          exact hy ⟨h2, fun hm => hn ((h x).1 hm)⟩
        · exact ⟨h1, h2⟩
theorem diff_of (a b : List Fate) : ∃ D : List Int, D.Pairwise (· < ·) ∧ ∀ r, r ∈ D ↔ firstF a r ≠ firstF b r := by
  obtain ⟨M, hM, h⟩ := pick_of (fun r => firstF a r ≠ firstF b r) ((a ++ b).map Fate.router)
  have hp := sortI_perm M
  refine ⟨sortI M, ?_, fun r => ?_⟩
  · have h1 := sortI_sorted M
    have h2 : (sortI M).Nodup := hp.nodup_iff.2 hM
    exact (h1.and h2).imp fun ⟨h3, h4⟩ => by omega
  · rw [hp.mem_iff, h]
    constructor
    · exact fun h => h.2
    · intro hr
      have := (seenF_all a b r).2 hr
      obtain ⟨⟨f, hf, e⟩, _⟩ := this
      exact ⟨List.mem_map.2 ⟨f, hf, e⟩, hr⟩
theorem judgeCounts_spec (a b : List Fate) (kind : Int) (ha : a.length ≤ 100000000) (hb : b.length ≤ 100000000) :
    FSpec Tryz.prog 4 [.im (.sl 3 (a.map Fate.iv)), .im (.sl 3 (b.map Fate.iv)), .int .u8 kind] [] (.bool true) [] := by
  obtain ⟨D, hD, hm⟩ := diff_of a b
  have h1 := countJ_spec a kind
  have h2 := countR_spec a kind
  have h3 := differJ_spec a b ha hb D hD hm
  have h4 := differR_spec a b ha hb D hD hm
  have h5 := alike_spec D D
  simp only [decide_true] at h5
  generalize countF kind a 0 = c at *
  refine FSpec.of_flat (q := []) Tryz.func4 (by kernel_rfl) rfl Tryz.ntmps4 Tryz.results4 hP (by kernel_rfl) (by simp) (by first | rfl | simp) ?_
  simp -implicitDefEqProofs
  first | refine CallK.same (lives_spec) rfl rfl ?_ | refine CallQ.same (lives_spec) rfl rfl ?_ | refine CallQG.same _ (lives_spec) rfl ?_ | refine CallG.same _ (lives_spec) rfl ?_ | refine CallK.pv (lives_spec) rfl rfl ?_
  simp -implicitDefEqProofs
  first | refine CallK.same (h1) rfl rfl ?_ | refine CallQ.same (h1) rfl rfl ?_ | refine CallQG.same _ (h1) rfl ?_ | refine CallG.same _ (h1) rfl ?_ | refine CallK.pv (h1) rfl rfl ?_
  simp -implicitDefEqProofs
  first | refine CallK.same (h2) rfl rfl ?_ | refine CallQ.same (h2) rfl rfl ?_ | refine CallQG.same _ (h2) rfl ?_ | refine CallG.same _ (h2) rfl ?_ | refine CallK.pv (h2) rfl rfl ?_
  simp -implicitDefEqProofs
  refine CallG.on (CallK.pv h3 rfl rfl ?_)
  simp -implicitDefEqProofs
  refine CallG.on (CallK.pv h4 rfl rfl ?_)
  simp -implicitDefEqProofs
  first | refine CallK.same (h5) rfl rfl ?_ | refine CallQ.same (h5) rfl rfl ?_ | refine CallQG.same _ (h5) rfl ?_ | refine CallG.same _ (h5) rfl ?_ | refine CallK.pv (h5) rfl rfl ?_
  simp -implicitDefEqProofs
theorem bulk_sl (k : Nat) (A : List (List IV)) (hA : ∀ y ∈ A, Sh.hasL fateSh y) : A.length ≤ IV.bulkRow [.sl k A] := by
  have := IV.bulkRows_len (l := A) fun y hy e => by
    have := hA y hy
    rw [e] at this
    obtain ⟨_, _, h, _⟩ := hasL_cons this
    cases h
  simp only [IV.bulkRow, IV.bulk]
  omega
/-- Two lists of fates, a kind. -/
theorem args_fates {xs : List (List IV)} (h : hasArgs [[.sl fateSh], [.sl fateSh], [.int .u8]] xs) (hB : IV.bulkRows xs ≤ 1048576) : ∃ (a b : List Fate) (kind : Int), a.length ≤ 100000000 ∧ b.length ≤ 100000000 ∧
    argsAV Tryz.prog [29, 29, 41] xs = [.im (.sl 3 (a.map Fate.iv)), .im (.sl 3 (b.map Fate.iv)), .int .u8 kind] := by
  obtain ⟨x, _, rfl, hx, h⟩ := hasArgs_cons h
  obtain ⟨y, _, rfl, hy, h⟩ := hasArgs_cons h
  obtain ⟨z, _, rfl, hz, h⟩ := hasArgs_cons h
  cases h
  obtain ⟨x1, _, rfl, hx1, hx⟩ := hasL_cons hx
  cases hasL_nil hx
  obtain ⟨y1, _, rfl, hy1, hy⟩ := hasL_cons hy
  cases hasL_nil hy
  obtain ⟨z1, _, rfl, hz1, hz⟩ := hasL_cons hz
  cases hasL_nil hz
  obtain ⟨A, rfl, hA⟩ := has_sl hx1
  obtain ⟨B, rfl, hBB⟩ := has_sl hy1
  obtain ⟨kind, rfl, _⟩ := has_int hz1
  have l1 := bulk_sl fateSh.length A hA
  have l2 := bulk_sl fateSh.length B hBB
  simp only [IV.bulkRows] at hB
  obtain ⟨a, rfl, _⟩ := rows_of fate_of A hA
  obtain ⟨b, rfl, _⟩ := rows_of fate_of B hBB
  rw [List.length_map] at l1 l2
  refine ⟨a, b, kind, by omega, by omega, ?_⟩
  simp only [argsAV, argAV, Tryz.underlying29, Tryz.underlying41]
  rfl
end Go.Am
