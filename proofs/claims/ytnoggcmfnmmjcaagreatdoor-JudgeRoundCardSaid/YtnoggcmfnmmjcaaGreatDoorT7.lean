import Derived.Test.YtnoggcmfnmmjcaaGreatDoorT3
import Derived.Test.YtnoggcmfnmmjcaaGreatDoorT4
import Derived.Test.YtnoggcmfnmmjcaaGreatDoorT6
set_option linter.unusedVariables false
set_option linter.unusedSimpArgs false
set_option pp.deepTerms false
set_option pp.deepTerms.threshold 40
namespace Go.Proofs
def Tryz.sortInt_ren : Go.Shelf.Ren := ⟨fun | 5 => 38 | 8 => 30 | 7 => 67 | 19 => 53 | 20 => 54 | 10 => 82 | 11 => 83 | 12 => 84 | 13 => 85 | 14 => 86 | 15 => 87 | 16 => 88 | 17 => 89 | 18 => 90 | 30 => 103 | 31 => 71 | 32 => 72 | 33 => 104 | 34 => 105 | 35 => 78 | 40 => 110 | n => n, fun | 23 => 39 | 25 => 3 | 3 => 3 | 32 => 103 | 22 => 39 | 0 => 0 | 44 => 127 | 46 => 26 | 4 => 4 | 36 => 121 | 35 => 120 | 41 => 107 | 5 => 5 | 9 => 9 | 53 => 146 | 57 => 150 | 63 => 174 | 64 => 175 | n => n, fun | n => n⟩
theorem Tryz.sortInt : SlLaysM.n5 Tryz.prog Tryz.sortInt_ren := {
  mixed := by kernel_rfl,
  f5 := ⟨Tryz.f38.name, by decide, Tryz.func38.trans (congrArg some (by kernel_rfl))⟩,
  f7 := ⟨Tryz.f67.name, by decide, Tryz.func67.trans (congrArg some (by kernel_rfl))⟩,
  f8 := Tryz.func30.trans (congrArg some (by kernel_rfl)),
  f10 := ⟨Tryz.f82.name, by decide, Tryz.func82.trans (congrArg some (by kernel_rfl))⟩,
  f11 := ⟨Tryz.f83.name, by decide, Tryz.func83.trans (congrArg some (by kernel_rfl))⟩,
  f12 := ⟨Tryz.f84.name, by decide, Tryz.func84.trans (congrArg some (by kernel_rfl))⟩,
  f13 := ⟨Tryz.f85.name, by decide, Tryz.func85.trans (congrArg some (by kernel_rfl))⟩,
  f14 := ⟨Tryz.f86.name, by decide, Tryz.func86.trans (congrArg some (by kernel_rfl))⟩,
  f15 := ⟨Tryz.f87.name, by decide, Tryz.func87.trans (congrArg some (by kernel_rfl))⟩,
  f16 := ⟨Tryz.f88.name, by decide, Tryz.func88.trans (congrArg some (by kernel_rfl))⟩,
  f17 := ⟨Tryz.f89.name, by decide, Tryz.func89.trans (congrArg some (by kernel_rfl))⟩,
  f18 := ⟨Tryz.f90.name, by decide, Tryz.func90.trans (congrArg some (by kernel_rfl))⟩,
  f19 := Tryz.func53.trans (congrArg some (by kernel_rfl)),
  f20 := Tryz.func54.trans (congrArg some (by kernel_rfl)),
  f30 := ⟨Tryz.f103.name, by decide, Tryz.func103.trans (congrArg some (by kernel_rfl))⟩,
  f31 := Tryz.func71.trans (congrArg some (by kernel_rfl)),
  f32 := Tryz.func72.trans (congrArg some (by kernel_rfl)),
  f33 := ⟨Tryz.f104.name, by decide, Tryz.func104.trans (congrArg some (by kernel_rfl))⟩,
  f34 := ⟨Tryz.f105.name, by decide, Tryz.func105.trans (congrArg some (by kernel_rfl))⟩,
  f35 := ⟨Tryz.f78.name, by decide, Tryz.func78.trans (congrArg some (by kernel_rfl))⟩,
  f40 := ⟨Tryz.f110.name, by decide, Tryz.func110.trans (congrArg some (by kernel_rfl))⟩,
  t0 := Tryz.underlying0,
  a0 := Tryz.isAgg0,
  z0 := Tryz.sizeOf0,
  v0 := Tryz.zeroValue0,
  t3 := Tryz.underlying3,
  a3 := Tryz.isAgg3,
  z3 := Tryz.sizeOf3,
  v3 := Tryz.zeroValue3,
  t4 := Tryz.underlying4,
  a4 := Tryz.isAgg4,
  z4 := Tryz.sizeOf4,
  v4 := Tryz.zeroValue4,
  t5 := Tryz.underlying5,
  a5 := Tryz.isAgg5,
  z5 := Tryz.sizeOf5,
  v5 := Tryz.zeroValue5,
  t9 := Tryz.underlying9,
  a9 := Tryz.isAgg9,
  z9 := Tryz.sizeOf9,
  v9 := Tryz.zeroValue9,
  t22 := Tryz.underlying39,
  a22 := Tryz.isAgg39,
  z22 := Tryz.sizeOf39,
  v22 := Tryz.zeroValue39,
  t23 := Tryz.underlying39,
  a23 := Tryz.isAgg39,
  z23 := Tryz.sizeOf39,
  v23 := Tryz.zeroValue39,
  t25 := Tryz.underlying3,
  a25 := Tryz.isAgg3,
  z25 := Tryz.sizeOf3,
  v25 := Tryz.zeroValue3,
  t32 := Tryz.underlying103,
  a32 := Tryz.isAgg103,
  z32 := Tryz.sizeOf103,
  v32 := Tryz.zeroValue103,
  t35 := Tryz.underlying120,
  a35 := Tryz.isAgg120,
  z35 := Tryz.sizeOf120,
  v35 := Tryz.zeroValue120,
  t36 := Tryz.underlying121,
  a36 := Tryz.isAgg121,
  z36 := Tryz.sizeOf121,
  v36 := Tryz.zeroValue121,
  t41 := Tryz.underlying107,
  a41 := Tryz.isAgg107,
  z41 := Tryz.sizeOf107,
  v41 := Tryz.zeroValue107,
  t44 := Tryz.underlying127,
  a44 := Tryz.isAgg127,
  z44 := Tryz.sizeOf127,
  v44 := Tryz.zeroValue127,
  t46 := Tryz.underlying26,
  a46 := Tryz.isAgg26,
  z46 := Tryz.sizeOf26,
  v46 := Tryz.zeroValue26,
  t53 := Tryz.underlying146,
  a53 := Tryz.isAgg146,
  z53 := Tryz.sizeOf146,
  v53 := Tryz.zeroValue146,
  t57 := Tryz.underlying150,
  a57 := Tryz.isAgg150,
  z57 := Tryz.sizeOf150,
  v57 := Tryz.zeroValue150,
  t63 := Tryz.underlying174,
  a63 := Tryz.isAgg174,
  z63 := Tryz.sizeOf174,
  v63 := Tryz.zeroValue174,
  t64 := Tryz.underlying175,
  a64 := Tryz.isAgg175,
  z64 := Tryz.sizeOf175,
  v64 := Tryz.zeroValue175 }
end Go.Proofs
namespace Go.Am
open Go.Proofs

/-! ### which routers' fates differ: the program -/
theorem rowN_rowI (l : List Int) : rowN l = rowI l := rfl
theorem sorted_spec (M : List (Int × AV)) (hM : ∀ ρ, renM ρ M = M) (hlen : M.length ≤ 1000000000) :
    FSpec Tryz.prog 25 [.fn 39 [.ptr 1 0]] [.mp .i64 M, .box 88 [.map 0]] (.im (.sl 1 (rowI (sortI (keysOf M))))) [.mp .i64 M, .box 88 [.map 0]] := by
  refine FSpec.of_o (q := []) Tryz.func25 (by kernel_rfl) rfl Tryz.ntmps25 Tryz.results25 hP (by kernel_rfl) (by simp) (by first | rfl | simp) ?_
  simp
  refine CallO.mk [] [0, 1] (collect_spec M hM hlen) (by simp) rfl (by simp) (by simp [hM]) (by simp) ?_
  simp [hM]
  have hs : FSpec Tryz.prog 38 [.row 0] [.rowE 3 1 (someOrder (keysOf M))] (.tup []) [.row 3 1 (rowI (sortI (keysOf M)))] := by
    refine FSpec.exRow (i := 0) (Tryz.sortInt.f5.enters rfl) rfl fun xs hx => ?_
    obtain ⟨l, hl, rfl⟩ := hx
    have hll : l.length ≤ 1000000000 := by rw [hl.length_eq]; simpa [keysOf] using hlen
    have := sortInts Tryz.sortInt 3 l (by omega)
    rw [rowN_rowI, rowN_rowI, sortI_eq hl] at this
    exact this
  refine CallO.mk [] [2] hs (by simp) rfl (by simp) (by simp) (by simp) ?_
  simp
  refine EndO.ret [2] [0, 1] (.row 2) (by simp) ?_
  simp [hM]
def setB (ks : List Int) : List (Int × AV) := ks.map fun r => (r, .bool true)
theorem setB_ren (ks : List Int) (ρ : Nat → Nat) : renM ρ (setB ks) = setB ks := by
  induction ks with
  | nil => rfl
  | cons x ks ih => show (x, AV.ren ρ (.bool true)) :: renM ρ (setB ks) = _; rw [ih]; rfl
theorem setB_keys (ks : List Int) : keysOf (setB ks) = ks := by simp [keysOf, setB, Function.comp_def]
theorem setB_put (ks : List Int) (r : Int) : mput (setB ks) r (.bool true) = setB (if r ∈ ks then ks else ks ++ [r]) := by
  have h := mput_kmap (fun b : Bool => AV.bool b) (ks.map fun r => (r, true)) r true
  have e : ∀ l : List Int, kmap (fun b : Bool => AV.bool b) (l.map fun r => (r, true)) = setB l := fun l => by simp [kmap, setB, Function.comp_def]
  rw [e] at h
  rw [h, ← e]
  congr 1
  clear h e
  induction ks with
  | nil => simp [kput]
  | cons x ks ih =>
    rw [List.map_cons, kput]
    by_cases hx : r = x
    · subst hx; simp
    · rw [if_neg hx, ih]
      have : r ∈ x :: ks ↔ r ∈ ks := by simp [hx]
      by_cases hm : r ∈ ks
      · simp [hm]
      · simp [hm, hx]
def firstF : List Fate → Int → Option Verd
  | [], _ => none
  | f :: l, x => if f.router = x then some f.v else firstF l x
theorem kget_firsts : ∀ (l : List Fate) (x : Int), kget (firstsK l) x = firstF l x
  | [], x => rfl
  | f :: l, x => by
    rw [firstsK, kget_put, kget_firsts l x, firstF]
    by_cases h : x = f.router
    · simp [h]
    · simp [h, Ne.symm h]
theorem kput_len {β : Type} : ∀ (l : List (Int × β)) (x : Int) (v : β), (kput l x v).length ≤ l.length + 1
  | [], x, v => by simp [kput]
  | (k, u) :: l, x, v => by
    rw [kput]
    split
    · simp
    · have := kput_len l x v
      simp; omega
theorem firstsK_len : ∀ l : List Fate, (firstsK l).length ≤ l.length
  | [] => Nat.le_refl _
  | f :: l => by
    have h1 := firstsK_len l
    have h2 := kput_len (firstsK l) f.router f.v
    rw [firstsK]
    simp; omega
theorem kget_at {β : Type} : ∀ (l : List (Int × β)) (h : (l.map (·.1)).Nodup) (i : Nat) (x : Int) (v : β), l[i]? = some (x, v) → kget l x = some v
  | [], _, i, x, v, hi => by simp at hi
  | (k, u) :: l, h, i, x, v, hi => by
    rw [kget]
    cases i with
    | zero => simp at hi; simp [hi]
    | succ i =>
      simp at hi
      rw [List.map_cons, List.nodup_cons] at h
      have hm : x ∈ l.map (·.1) := List.mem_map.2 ⟨(x, v), List.mem_of_getElem? hi, rfl⟩
      rw [if_neg (fun e => h.1 (by rw [← e]; exact hm))]
      exact kget_at l h.2 i x v hi
theorem kput_keys {β : Type} : ∀ (l : List (Int × β)) (x : Int) (v : β), (kput l x v).map (·.1) = if x ∈ l.map (·.1) then l.map (·.1) else l.map (·.1) ++ [x]
  | [], x, v => by simp [kput]
  | (k, u) :: l, x, v => by
    rw [kput]
    by_cases h : x = k
    · subst h; simp
    · rw [if_neg h, List.map_cons, kput_keys l x v]
      by_cases hm : x ∈ l.map (·.1)
      · simp [hm]
      · simp only [hm, if_false]
        have : ¬ x ∈ k :: l.map (·.1) := by simp only [List.mem_cons, not_or]; exact ⟨h, hm⟩
        simp [h] at hm ⊢
        simp [hm]
theorem firstsK_nodup : ∀ l : List Fate, ((firstsK l).map (·.1)).Nodup
  | [] => List.nodup_nil
  | f :: l => by
    have h := firstsK_nodup l
    rw [firstsK, kput_keys]
    split
    · exact h
    · rename_i hm
      rw [List.nodup_append]
      exact ⟨h, by simp, fun a ha b hb e => by rw [List.mem_singleton] at hb; subst hb; subst e; exact hm ha⟩
theorem kget_mem {β : Type} : ∀ {l : List (Int × β)} {x : Int} {v : β}, kget l x = some v → ∃ i : Nat, l[i]? = some (x, v)
  | [], x, v, h => by cases h
  | (k, u) :: l, x, v, h => by
    rw [kget] at h
    split at h
    · rename_i e; cases h; subst e; exact ⟨0, rfl⟩
    · obtain ⟨i, hi⟩ := kget_mem h
      exact ⟨i + 1, by simpa using hi⟩
theorem verd_ne (u v : Verd) : (u ≠ v) ↔ ¬ (u.kind = v.kind ∧ u.at_ = v.at_) := by
  cases u; cases v; simp
end Go.Am

set_option linter.unusedVariables false
set_option linter.unusedSimpArgs false
set_option pp.deepTerms false
set_option pp.deepTerms.threshold 40
namespace Go.Am
open Go.Proofs

/-! ### which routers' fates differ -/
@[simp] theorem kmap_length {β : Type} (f : β → AV) (l : List (Int × β)) : (kmap f l).length = l.length := by simp [kmap]
theorem kmap_get {β : Type} (f : β → AV) (l : List (Int × β)) (i : Nat) (e : Int × AV) (h : (kmap f l)[i]? = some e) : ∃ r v, l[i]? = some (r, v) ∧ e = (r, f v) := by
  unfold kmap at h
  rw [List.getElem?_map, Option.map_eq_some_iff] at h
  obtain ⟨⟨r, v⟩, h1, rfl⟩ := h
  exact ⟨r, v, h1, rfl⟩
@[simp] theorem renM_setB (ks : List Int) (ρ : Nat → Nat) : renM ρ (setB ks) = setB ks := setB_ren ks ρ
theorem setB_nil : setB [] = [] := rfl
theorem snoc_nodup {g : List Nat} {i : Nat} (hn : g.Nodup) (hi : i ∉ g) : (g ++ [i]).Nodup := by
  rw [List.nodup_append]
  exact ⟨hn, by simp, fun a ha b hb e => by rw [List.mem_singleton] at hb; subst hb; subst e; exact hi ha⟩
theorem snoc_lt {g : List Nat} {i n : Nat} (h : ∀ j ∈ g, j < n) (hi : i < n) : ∀ j ∈ g ++ [i], j < n := fun j hj => by
  rcases List.mem_append.1 hj with hj | hj
  · exact h j hj
  · rw [List.mem_singleton] at hj; subst hj; exact hi
def addB (c : Bool) (ks : List Int) (r : Int) : List Int := if c then (if r ∈ ks then ks else ks ++ [r]) else ks
theorem addB_mem (c : Bool) (ks : List Int) (r x : Int) : x ∈ addB c ks r ↔ x ∈ ks ∨ (c = true ∧ x = r) := by
  unfold addB
  cases c
  · simp
  · simp only [if_true, true_and]
    by_cases h : r ∈ ks
    · simp only [h, if_true]
      exact ⟨.inl, fun h' => h'.elim id fun e => e ▸ h⟩
    · simp [h]
theorem addB_nodup (c : Bool) {ks : List Int} (r : Int) (h : ks.Nodup) : (addB c ks r).Nodup := by
  unfold addB
  cases c
  · exact h
  · simp only [if_true]
    by_cases hm : r ∈ ks
    · simpa [hm] using h
    · simp only [hm, if_false]
      rw [List.nodup_append]
      exact ⟨h, by simp, fun a ha b hb e => by rw [List.mem_singleton] at hb; subst hb; subst e; exact hm ha⟩
theorem addB_len (c : Bool) (ks : List Int) (r : Int) : (addB c ks r).length ≤ ks.length + 1 := by
  unfold addB
  repeat' split
  all_goals simp
/-- Of X's entries (those seen) the ones that Y has not. -/
def seenD (X Y : List (Int × Verd)) (g : List Nat) (r : Int) : Prop := ∃ (i : Nat) (v : Verd), i ∈ g ∧ X[i]? = some (r, v) ∧ kget Y r ≠ some v
def seenN (X Y : List (Int × Verd)) (g : List Nat) (r : Int) : Prop := ∃ (i : Nat) (v : Verd), i ∈ g ∧ Y[i]? = some (r, v) ∧ kget X r = none
set_option maxRecDepth 8000 in
set_option maxHeartbeats 1000000 in
theorem differJ_spec (a b : List Fate) (ha : a.length ≤ 100000000) (hb : b.length ≤ 100000000) (D : List Int) (hD : D.Pairwise (· < ·)) (hm : ∀ r, r ∈ D ↔ firstF a r ≠ firstF b r) :
    FSpec Tryz.prog 14 [.im (.sl 3 (a.map Fate.iv)), .im (.sl 3 (b.map Fate.iv))] [] (.im (.sl 1 (rowI D))) [] := by
  have hXl := firstsK_len a
  have hYl := firstsK_len b
  have hXn := firstsK_nodup a
  have hYn := firstsK_nodup b
  simp only [← kget_firsts] at hm
  refine FSpec.of_z (q := []) Tryz.func14 (by kernel_rfl) rfl Tryz.ntmps14 Tryz.results14 hP (by kernel_rfl) (by simp) (by first | rfl | simp) ?_
  simp
  refine CallK.outs [] (firsts_spec a) rfl (by simp) (by simp [AV.flat]) ?_
  simp
  refine CallK.outs [] (firsts_spec b) rfl (by simp) (by simp [AV.flat]) ?_
  simp
  generalize firstsK a = X at *
  generalize firstsK b = Y at *
  refine LoopK.os (fun g : List Nat × List Int => [(5, .map 0), (6, .map 1), (7, .map 2), (21, .ptr 3 0)])
    (fun g => [.mp .i64 (kmap Verd.av X), .mp .i64 (kmap Verd.av Y), .mp .i64 (setB g.2), .it 0 X.length g.1])
    (fun g => g.1.Nodup ∧ (∀ i ∈ g.1, i < X.length) ∧ g.2.Nodup ∧ g.2.length ≤ g.1.length ∧ ∀ r, r ∈ g.2 ↔ seenD X Y g.1 r) (fun g => X.length - g.1.length) ([], []) [0, 1, 2, 3] ⟨List.nodup_nil, by simp, List.nodup_nil, by simp, fun r => by simp [seenD]⟩ (by simp [setB_nil]) ?_
  rintro ⟨g, ks⟩ ⟨hn, hlt, hkn, hkl, hR⟩
  simp only at hn hlt hkn hkl hR
  have hgl : g.length ≤ X.length := nodup_len _ g hn hlt
  simp
  refine ⟨3, 0, X.length, g, .i64, kmap Verd.av X, rfl, rfl, rfl, by simp, fun i e he hi => ?_, fun hall => ?_⟩
  · obtain ⟨r, v, hx, rfl⟩ := kmap_get _ _ _ _ he
    have hil : i < X.length := (List.getElem?_eq_some_iff.1 hx).1
    have hn' := snoc_nodup hn hi
    have hlt' := snoc_lt hlt hil
    have hgl' := nodup_len _ _ hn' hlt'
    rw [List.length_append, List.length_singleton] at hgl'
    have hgy := mget_kmap Verd.av Y r
    have hput := setB_put ks r
    have next : ∀ c : Bool, (c = true ↔ kget Y r ≠ some v) → (addB c ks r).Nodup ∧ (addB c ks r).length ≤ (g ++ [i]).length ∧ ∀ x, x ∈ addB c ks r ↔ seenD X Y (g ++ [i]) x := by
      intro c hc
      refine ⟨addB_nodup c r hkn, ?_, fun x => ?_⟩
      · have := addB_len c ks r
        simp; omega
      · rw [addB_mem, hR, hc]
        unfold seenD
        constructor
        · rintro (⟨j, u, h1, h2, h3⟩ | ⟨h1, rfl⟩)
          · exact ⟨j, u, List.mem_append_left _ h1, h2, h3⟩
          · exact ⟨i, v, by simp, hx, h1⟩
        · rintro ⟨j, u, h1, h2, h3⟩
          rcases List.mem_append.1 h1 with h1 | h1
          · exact .inl ⟨j, u, h1, h2, h3⟩
          · rw [List.mem_singleton] at h1
            subst h1
            rw [hx] at h2
            cases h2
            exact .inr ⟨h3, rfl⟩
    cases hy : kget Y r with
    | none =>
      obtain ⟨n1, n2, n3⟩ := next true (by simp [hy])
      rw [hy] at hgy
      simp [he, hgy, hput]
      refine Again.os (g ++ [i], addB true ks r) [0, 1, 2, 3] ⟨hn', hlt', n1, n2, n3⟩ (by simp only [List.length_append, List.length_singleton]; omega) ?_
      simp [addB]
    | some u =>
      rw [hy] at hgy
      have hne := verd_ne u v
      simp [he, hgy, hput]
      refine ⟨fun h => ?_, fun h1 h2 => ?_⟩
      · obtain ⟨n1, n2, n3⟩ := next true (by rw [hy]; simp only [true_iff, ne_eq, Option.some.injEq]; rw [← ne_eq, hne]; rintro ⟨h1, h2⟩; exact h.elim (· h1) (· h2))
        refine Again.os (g ++ [i], addB true ks r) [0, 1, 2, 3] ⟨hn', hlt', n1, n2, n3⟩ (by simp only [List.length_append, List.length_singleton]; omega) ?_
        simp [addB]
      · have huv : u = v := by cases u; cases v; simp_all
        obtain ⟨n1, n2, n3⟩ := next false (by rw [hy, huv]; simp)
        refine Again.os (g ++ [i], addB false ks r) [0, 1, 2, 3] ⟨hn', hlt', n1, n2, n3⟩ (by simp only [List.length_append, List.length_singleton]; omega) ?_
        simp [addB]
  · simp
    have hR1 : ∀ r, r ∈ ks ↔ ∃ v, kget X r = some v ∧ kget Y r ≠ some v := fun r => by
      rw [hR]
      constructor
      · rintro ⟨i, v, _, h2, h3⟩
        exact ⟨v, kget_at X hXn i r v h2, h3⟩
      · rintro ⟨v, h1, h2⟩
        obtain ⟨i, hi⟩ := kget_mem h1
        exact ⟨i, v, hall i (by have := (List.getElem?_eq_some_iff.1 hi).1; simpa using this), hi, h2⟩
    refine LoopK.os (fun g : List Nat × List Int => [(5, .map 0), (6, .map 1), (7, .map 2), (43, .ptr 3 0)])
      (fun g => [.mp .i64 (kmap Verd.av X), .mp .i64 (kmap Verd.av Y), .mp .i64 (setB g.2), .it 1 Y.length g.1])
      (fun g => g.1.Nodup ∧ (∀ i ∈ g.1, i < Y.length) ∧ g.2.Nodup ∧ g.2.length ≤ X.length + g.1.length ∧ ∀ r, r ∈ g.2 ↔ r ∈ ks ∨ seenN X Y g.1 r) (fun g => Y.length - g.1.length) ([], ks) [0, 1, 2, 4] ⟨List.nodup_nil, by simp, hkn, by simp; omega, fun r => by simp [seenN]⟩ (by simp) ?_
    clear hn hlt hkl hR hgl hall
    rintro ⟨g, ls⟩ ⟨hn, hlt, hln, hll, hR⟩
    simp only at hn hlt hln hll hR
    have hgl : g.length ≤ Y.length := nodup_len _ g hn hlt
    simp
    refine ⟨3, 1, Y.length, g, .i64, kmap Verd.av Y, rfl, rfl, rfl, by simp, fun i e he hi => ?_, fun hall => ?_⟩
    · obtain ⟨r, v, hx, rfl⟩ := kmap_get _ _ _ _ he
      have hil : i < Y.length := (List.getElem?_eq_some_iff.1 hx).1
      have hn' := snoc_nodup hn hi
      have hlt' := snoc_lt hlt hil
      have hgl' := nodup_len _ _ hn' hlt'
      rw [List.length_append, List.length_singleton] at hgl'
      have hgx := mget_kmap Verd.av X r
      have hput := setB_put ls r
      have next : ∀ c : Bool, (c = true ↔ kget X r = none) → (addB c ls r).Nodup ∧ (addB c ls r).length ≤ X.length + (g ++ [i]).length ∧ ∀ x, x ∈ addB c ls r ↔ x ∈ ks ∨ seenN X Y (g ++ [i]) x := by
        intro c hc
        refine ⟨addB_nodup c r hln, ?_, fun x => ?_⟩
        · have := addB_len c ls r
          simp; omega
        · rw [addB_mem, hR, hc, or_assoc]
          refine or_congr Iff.rfl ?_
          unfold seenN
          constructor
          · rintro (⟨j, u, h1, h2, h3⟩ | ⟨h1, rfl⟩)
            · exact ⟨j, u, List.mem_append_left _ h1, h2, h3⟩
            · exact ⟨i, v, by simp, hx, h1⟩
          · rintro ⟨j, u, h1, h2, h3⟩
            rcases List.mem_append.1 h1 with h1 | h1
            · exact .inl ⟨j, u, h1, h2, h3⟩
            · rw [List.mem_singleton] at h1
              subst h1
              rw [hx] at h2
              cases h2
              exact .inr ⟨h3, rfl⟩
      cases hy : kget X r with
      | none =>
        obtain ⟨n1, n2, n3⟩ := next true (by simp [hy])
        rw [hy] at hgx
        simp [he, hgx, hput]
        refine Again.os (g ++ [i], addB true ls r) [0, 1, 2, 3] ⟨hn', hlt', n1, n2, n3⟩ (by simp only [List.length_append, List.length_singleton]; omega) ?_
        simp [addB]
      | some u =>
        obtain ⟨n1, n2, n3⟩ := next false (by simp [hy])
        rw [hy] at hgx
        simp [he, hgx, hput]
        refine Again.os (g ++ [i], addB false ls r) [0, 1, 2, 3] ⟨hn', hlt', n1, n2, n3⟩ (by simp only [List.length_append, List.length_singleton]; omega) ?_
        simp [addB]
    · have hfin : ∀ r, r ∈ ls ↔ r ∈ D := fun r => by
        rw [hR, hR1, hm]
        constructor
        · rintro (⟨v, h1, h2⟩ | ⟨i, v, _, h2, h3⟩)
          · rw [h1]; exact fun e => h2 e.symm
          · rw [h3, kget_at Y hYn i r v h2]; simp
        · intro h
          cases hx : kget X r with
          | some v => exact .inl ⟨v, rfl, fun e => h (by rw [hx, e])⟩
          | none =>
            cases hy : kget Y r with
            | none => rw [hx, hy] at h; exact absurd rfl h
            | some v =>
              obtain ⟨i, hi⟩ := kget_mem hy
              exact .inr ⟨i, v, hall i (by have := (List.getElem?_eq_some_iff.1 hi).1; simpa using this), hi, hx⟩
      have hDn : D.Nodup := hD.imp fun h => by omega
      have hsort : sortI ls = D := sorted_eq ((sortI_perm ls).trans ((List.perm_ext_iff_of_nodup hln hDn).2 hfin)) (sortI_sorted ls) (hD.imp fun h => by omega)
      simp
      refine CallO.mk [] [2] (keysB_spec (setB ls) (setB_ren ls)) (by simp) rfl (by simp) (by simp) (by simp) ?_
      simp
      refine CallO.mk [] [2, 4] (sorted_spec (setB ls) (setB_ren ls) (by simp [setB]; omega)) (by simp) rfl (by simp) (by simp) (by simp) ?_
      simp [setB_keys, hsort]
      refine EndZ.ret [] _ rfl ?_
      simp
end Go.Am

set_option linter.unusedVariables false
set_option linter.unusedSimpArgs false
set_option pp.deepTerms false
set_option pp.deepTerms.threshold 40
namespace Go.Am
open Go.Proofs

/-! ### a net in which packets go round -/
def toR (x p : Int) : Router := ⟨x, true, [⟨⟨false, ⟨0, 0⟩, 0⟩, ⟨1, 0⟩⟩], [⟨0, p⟩]⟩
theorem to_spec (x p : Int) : FSpec Tryz.prog 10 [.int .i64 x, .int .i64 p] [] (toR x p).av [] := by
  refine FSpec.of_z (q := []) Tryz.func10 (by kernel_rfl) rfl Tryz.ntmps10 Tryz.results10 hP (by kernel_rfl) (by simp) (by first | rfl | simp) ?_
  simp
  refine EndZ.ret [1, 2] (.agg [.int .i64 x, .bool true, .row 1, .row 2]) (by simp) (by simp [toR])
def livesR : List Router := [toR 4 7, toR 5 7, toR 7 4, toR 8 9]
def livesN : Net := ⟨livesR.map fun r => ⟨r.id, 1, 0, true⟩, livesR⟩
/-- A call that hands back a value that never changes, and is handed rows that were let go. -/
theorem CallK.v0 {P : Go.Program} {f : FuncId} {args args' : List AV} {r : AV} {d : Option Nat} {k : St → Prop} {st : St} (hs : FSpec P f args' [] r []) (hp : AV.pureL args' = true) (ha : argsOk st args args') (hr : r.pure = true) (hk : k (st.put d r)) : CallX P f args d k st :=
  CallK.val [] hs hp ha hr hk hk
def livesF : List Fate := [⟨4, ⟨4, 4⟩⟩, ⟨5, ⟨4, 7⟩⟩, ⟨7, ⟨4, 7⟩⟩, ⟨8, ⟨3, 9⟩⟩]
theorem livesN_right : rightN livesN false ⟨0, 0⟩ = true := by kernel_rfl
theorem livesN_wrong : rightN livesN false ⟨1, 0⟩ = false := by kernel_rfl
theorem livesN_fates : fatesN livesN false ⟨0, 0⟩ = livesF := by kernel_rfl
theorem livesN_loops : loopsN livesN false ⟨0, 0⟩ = [[4, 7]] := by kernel_rfl
theorem livesN_none : fatesN livesN false ⟨1, 0⟩ = [] := by simp [fatesN, livesN_wrong]
theorem livesN_wf : livesN.wf := by
  intro r hr
  simp [livesN, livesR] at hr
  rcases hr with rfl | rfl | rfl | rfl <;> (intro x hx; simp [toR] at hx; subst hx; unfold Addr4.wf; decide)
theorem lives_spec : FSpec Tryz.prog 5 [] [] (.bool true) [] := by
  refine FSpec.of_flat (q := []) Tryz.func5 (by kernel_rfl) rfl Tryz.ntmps5 Tryz.results5 hP (by kernel_rfl) (by simp) (by first | rfl | simp) ?_
  simp
  first | refine CallK.same (to_spec 4 7) rfl rfl ?_ | refine CallQ.same (to_spec 4 7) rfl rfl ?_ | refine CallQG.same _ (to_spec 4 7) rfl ?_ | refine CallG.same _ (to_spec 4 7) rfl ?_ | refine CallK.pv (to_spec 4 7) rfl rfl ?_
  simp
  first | refine CallK.same (to_spec 5 7) rfl rfl ?_ | refine CallQ.same (to_spec 5 7) rfl rfl ?_ | refine CallQG.same _ (to_spec 5 7) rfl ?_ | refine CallG.same _ (to_spec 5 7) rfl ?_ | refine CallK.pv (to_spec 5 7) rfl rfl ?_
  simp
  first | refine CallK.same (to_spec 7 4) rfl rfl ?_ | refine CallQ.same (to_spec 7 4) rfl rfl ?_ | refine CallQG.same _ (to_spec 7 4) rfl ?_ | refine CallG.same _ (to_spec 7 4) rfl ?_ | refine CallK.pv (to_spec 7 4) rfl rfl ?_
  simp
  first | refine CallK.same (to_spec 8 9) rfl rfl ?_ | refine CallQ.same (to_spec 8 9) rfl rfl ?_ | refine CallQG.same _ (to_spec 8 9) rfl ?_ | refine CallG.same _ (to_spec 8 9) rfl ?_ | refine CallK.pv (to_spec 8 9) rfl rfl ?_
  simp
  refine LoopK.nil (.cl 0 0 57 4) ?_
  simp
  refine LoopK.nil (.cl 0 1 45 4) ?_
  simp
  refine LoopK.os (fun k : Nat => [(1, .ptr 0 0), (18, .row 1), (19, .int .i64 4), (20, .int .i64 k)])
    (fun k => [.box 25 [.row 2, .row 3], .row 45 4 (livesR.map Router.iv), .row 57 4 ((livesN.seats.take k).map Seat.iv), .row 45 4 ((livesR.take k).map Router.iv)])
    (fun k => k ≤ 4) (fun k => 4 - k) 0 [0, 1, 2, 3] (by omega) (by simp [livesR]) ?_
  intro k hk
  by_cases hlt : k < 4
  · have e1 : IntKind.i64.wrap (k + 1) = (k + 1 : Nat) := wrap64 (by omega) (by omega)
    have hl4 : livesR.length = 4 := rfl
    have hs4 : livesN.seats.length = 4 := rfl
    have hg := List.getElem?_eq_getElem (show k < livesR.length by omega)
    have hsk : (livesN.seats.take (k + 1)) = livesN.seats.take k ++ [⟨livesR[k].id, 1, 0, true⟩] := by
      rw [List.take_add_one]
      simp only [livesN, List.getElem?_map, hg]
      rfl
    have hrk : livesR.take (k + 1) = livesR.take k ++ [livesR[k]] := by
      rw [List.take_add_one, hg]; rfl
    have hlt' : (k : Int) < 4 := by omega
    simp [hlt, hlt', hl4, hs4, hg, e1]
    refine ⟨⟨by omega, by unfold maxLen; omega⟩, ⟨by omega, by unfold maxLen; omega⟩, ?_⟩
    refine Again.os (k + 1) [0, 1, 6, 8] hlt (by omega) ?_
    have hsk' : List.take (k + 1) (livesN.seats.map Seat.iv) = List.take k (livesN.seats.map Seat.iv) ++ [Seat.iv ⟨livesR[k].id, 1, 0, true⟩] := by rw [← List.map_take, hsk, List.map_append, List.map_take]; rfl
    have hrk' : List.take (k + 1) (livesR.map Router.iv) = List.take k (livesR.map Router.iv) ++ [livesR[k].iv] := by rw [← List.map_take, hrk, List.map_append, List.map_take]; rfl
    simp [hsk', hrk']
    exact ⟨rfl, rfl, rfl, rfl⟩
  · have hk4 : k = 4 := by omega
    subst hk4
    have hst : List.take 4 (livesN.seats.map Seat.iv) = livesN.seats.map Seat.iv := rfl
    have hrt : List.take 4 (livesR.map Router.iv) = livesN.routers.map Router.iv := rfl
    have hwf0 : Addr4.wf ⟨0, 0⟩ := by unfold Addr4.wf; decide
    have hwf1 : Addr4.wf ⟨1, 0⟩ := by unfold Addr4.wf; decide
    have s1 := fatesJ_spec livesN false ⟨0, 0⟩ livesN_wf hwf0
    have s2 := loopsJ_spec livesN false ⟨0, 0⟩ livesN_wf hwf0
    have s3 := fatesJ_spec livesN false ⟨1, 0⟩ livesN_wf hwf1
    rw [livesN_fates, livesN_right] at s1
    rw [livesN_loops, livesN_right] at s2
    rw [livesN_none, livesN_wrong] at s3
    simp only [if_true, Bool.false_eq_true, if_false] at s1 s2 s3
    clear hwf0 hwf1
    simp [hst, hrt]
    clear hst hrt
    generalize livesN = N at *
    generalize livesR = RR at *
    generalize hLF : livesF = LF at *
    refine CallX.pre (.fz [2, 3]) ?_
    simp
    refine CallK.v0 s1 rfl (by simp) rfl ?_
    simp -implicitDefEqProofs
    refine CallK.v0 s2 rfl (by simp) rfl ?_
    simp -implicitDefEqProofs
    refine CallK.v0 s3 rfl (by simp) rfl ?_
    simp -implicitDefEqProofs
    have hcount : countF 4 LF 0 = 3 := by rw [← hLF]; decide
    have hrow : ((LF.map Fate.iv) : List (List IV)) = [[.sc (.int .i64 4), .sc (.int .u8 4), .sc (.int .i64 4)], [.sc (.int .i64 5), .sc (.int .u8 4), .sc (.int .i64 7)], [.sc (.int .i64 7), .sc (.int .u8 4), .sc (.int .i64 7)], [.sc (.int .i64 8), .sc (.int .u8 3), .sc (.int .i64 9)]] := by rw [← hLF]; rfl
    have hsame : sameFL LF LF = true := by rw [← hLF]; decide
    have w1 := sameFt_spec LF LF
    have w2 := alike_spec [4, 7] [4, 7]
    have w3 := countJ_spec LF 4
    have w4 := differJ_spec LF (LF.drop 1) (by rw [← hLF]; decide) (by rw [← hLF]; decide) [4] (by simp) (by
      intro r
      rw [← hLF]
      simp only [livesF, firstF, List.drop_succ_cons, List.drop_zero, List.mem_singleton]
      by_cases h4 : r = 4
      · subst h4; simp
      · simp [h4, Ne.symm h4])
    have w5 := alike_spec [4] [4]
    rw [hcount] at w3
    rw [hsame] at w1
    simp only [decide_true] at w2 w5
    rw [List.map_drop] at w4
    simp only [rowL, rowI, List.map_cons, List.map_nil] at w2 w4 w5
    rw [hrow] at w1 w3 w4
    simp only [List.drop_succ_cons, List.drop_zero] at w4
    refine CallX.pre (.fz [4]) ?_
    simp -implicitDefEqProofs [rowL, hrow]
    clear hsame hcount s1 s2 s3
    refine CallK.v0 w1 rfl (by simp) rfl ?_
    simp -implicitDefEqProofs
    refine CallG.on ?_
    refine CallX.pre (.fz [5]) ?_
    simp -implicitDefEqProofs
    refine CallK.v0 w2 rfl (by simp [rowI]) rfl ?_
    simp -implicitDefEqProofs
    refine CallG.on (CallK.v0 w3 rfl (by simp) rfl ?_)
    simp -implicitDefEqProofs
    refine CallG.on (CallK.v0 w4 rfl (by simp) rfl ?_)
    simp -implicitDefEqProofs
    refine CallG.on ?_
    refine CallX.pre (.fz [6]) ?_
    simp -implicitDefEqProofs
    refine CallK.v0 w5 rfl (by simp) rfl ?_
    simp -implicitDefEqProofs
end Go.Am

set_option linter.unusedVariables false
set_option linter.unusedSimpArgs false
set_option pp.deepTerms false
set_option pp.deepTerms.threshold 40
namespace Go.Am
open Go.Proofs

/-! ### the law JudgeTells -/
theorem sameFL_self : ∀ l : List Fate, sameFL l l = true
  | [] => rfl
  | f :: l => by simp [sameFL, sameFL_self l]
end Go.Am

set_option linter.unusedVariables false
set_option linter.unusedSimpArgs false
set_option pp.deepTerms false
set_option pp.deepTerms.threshold 40
namespace Go.Am
open Go.Proofs

/-! ### what the laws are handed -/
theorem rows_of {α : Type} {f : α → List IV} {Q : α → Prop} {l : List Sh} (h : ∀ y, Sh.hasL l y → ∃ a, Q a ∧ y = f a) : ∀ xs : List (List IV), (∀ y ∈ xs, Sh.hasL l y) → ∃ zs : List α, xs = zs.map f ∧ ∀ a ∈ zs, Q a
  | [], _ => ⟨[], rfl, fun a ha => by cases ha⟩
  | x :: xs, hx => by
    obtain ⟨a, h1, h2⟩ := h x (hx x List.mem_cons_self)
    obtain ⟨zs, h3, h4⟩ := rows_of h xs fun y hy => hx y (List.mem_cons_of_mem _ hy)
    exact ⟨a :: zs, by rw [h2, h3]; rfl, fun b hb => by
      rcases List.mem_cons.1 hb with rfl | hb
      · exact h1
      · exact h4 b hb⟩
theorem hasL_cons {s : Sh} {l : List Sh} {xs : List IV} (h : Sh.hasL (s :: l) xs) : ∃ y ys, xs = y :: ys ∧ s.has y ∧ Sh.hasL l ys := by simpa only [Sh.hasL] using h
theorem hasL_nil {xs : List IV} (h : Sh.hasL [] xs) : xs = [] := by simpa only [Sh.hasL] using h
theorem has_int {q : IntKind} {x : IV} (h : (Sh.int q).has x) : ∃ n : Int, x = .sc (.int q n) ∧ (Lit.int q n).wf = true := by simpa only [Sh.has] using h
theorem has_bool {x : IV} (h : Sh.bool.has x) : ∃ b : Bool, x = .sc (.bool b) := by simpa only [Sh.has] using h
theorem has_sl {l : List Sh} {x : IV} (h : (Sh.sl l).has x) : ∃ xs : List (List IV), x = .sl l.length xs ∧ ∀ y ∈ xs, Sh.hasL l y := by simpa only [Sh.has] using h
theorem u64_wf {n : Int} (h : (Lit.int .u64 n).wf = true) : 0 ≤ n ∧ n < 18446744073709551616 := by
  simp [Lit.wf, IntKind.min, IntKind.max, IntKind.signed, IntKind.bits] at h
  omega
def seatSh : List Sh := [.int .i64, .int .u64, .int .i64, .bool]
def routeSh : List Sh := [.bool, .int .u64, .int .u64, .int .i64, .int .u8, .int .i64]
def linkSh : List Sh := [.int .i64, .int .i64]
def routerSh : List Sh := [.int .i64, .bool, .sl routeSh, .sl linkSh]
def netSh : List Sh := [.sl seatSh, .sl routerSh]
def addrSh : List Sh := [.int .u64, .int .u64]
def fateSh : List Sh := [.int .i64, .int .u8, .int .i64]
theorem seat_of (y : List IV) (h : Sh.hasL seatSh y) : ∃ s : Seat, True ∧ y = s.iv := by
  obtain ⟨a, _, rfl, ha, h⟩ := hasL_cons h
  obtain ⟨b, _, rfl, hb, h⟩ := hasL_cons h
  obtain ⟨c, _, rfl, hc, h⟩ := hasL_cons h
  obtain ⟨d, _, rfl, hd, h⟩ := hasL_cons h
  cases hasL_nil h
  obtain ⟨a, rfl, _⟩ := has_int ha
  obtain ⟨b, rfl, _⟩ := has_int hb
  obtain ⟨c, rfl, _⟩ := has_int hc
  obtain ⟨d, rfl⟩ := has_bool hd
  exact ⟨⟨a, b, c, d⟩, trivial, rfl⟩
theorem link_of (y : List IV) (h : Sh.hasL linkSh y) : ∃ s : Link, True ∧ y = s.iv := by
  obtain ⟨a, _, rfl, ha, h⟩ := hasL_cons h
  obtain ⟨b, _, rfl, hb, h⟩ := hasL_cons h
  cases hasL_nil h
  obtain ⟨a, rfl, _⟩ := has_int ha
  obtain ⟨b, rfl, _⟩ := has_int hb
  exact ⟨⟨a, b⟩, trivial, rfl⟩
theorem fate_of (y : List IV) (h : Sh.hasL fateSh y) : ∃ s : Fate, True ∧ y = s.iv := by
  obtain ⟨a, _, rfl, ha, h⟩ := hasL_cons h
  obtain ⟨b, _, rfl, hb, h⟩ := hasL_cons h
  obtain ⟨c, _, rfl, hc, h⟩ := hasL_cons h
  cases hasL_nil h
  obtain ⟨a, rfl, _⟩ := has_int ha
  obtain ⟨b, rfl, _⟩ := has_int hb
  obtain ⟨c, rfl, _⟩ := has_int hc
  exact ⟨⟨a, ⟨b, c⟩⟩, trivial, rfl⟩
theorem route_of (y : List IV) (h : Sh.hasL routeSh y) : ∃ s : Route, s.pfx.addr.wf ∧ y = s.iv := by
  obtain ⟨a, _, rfl, ha, h⟩ := hasL_cons h
  obtain ⟨b, _, rfl, hb, h⟩ := hasL_cons h
  obtain ⟨c, _, rfl, hc, h⟩ := hasL_cons h
  obtain ⟨d, _, rfl, hd, h⟩ := hasL_cons h
  obtain ⟨e, _, rfl, he, h⟩ := hasL_cons h
  obtain ⟨f, _, rfl, hf, h⟩ := hasL_cons h
  cases hasL_nil h
  obtain ⟨a, rfl⟩ := has_bool ha
  obtain ⟨b, rfl, wb⟩ := has_int hb
  obtain ⟨c, rfl, wc⟩ := has_int hc
  obtain ⟨d, rfl, _⟩ := has_int hd
  obtain ⟨e, rfl, _⟩ := has_int he
  obtain ⟨f, rfl, _⟩ := has_int hf
  exact ⟨⟨⟨a, ⟨b, c⟩, d⟩, ⟨e, f⟩⟩, ⟨(u64_wf wb).1, (u64_wf wb).2, u64_wf wc⟩, rfl⟩
theorem router_of (y : List IV) (h : Sh.hasL routerSh y) : ∃ s : Router, s.wf ∧ y = s.iv := by
  obtain ⟨a, _, rfl, ha, h⟩ := hasL_cons h
  obtain ⟨b, _, rfl, hb, h⟩ := hasL_cons h
  obtain ⟨c, _, rfl, hc, h⟩ := hasL_cons h
  obtain ⟨d, _, rfl, hd, h⟩ := hasL_cons h
  cases hasL_nil h
  obtain ⟨a, rfl, _⟩ := has_int ha
  obtain ⟨b, rfl⟩ := has_bool hb
  obtain ⟨c, rfl, wc⟩ := has_sl hc
  obtain ⟨d, rfl, wd⟩ := has_sl hd
  obtain ⟨rs, rfl, hr⟩ := rows_of route_of c wc
  obtain ⟨ls, rfl, _⟩ := rows_of link_of d wd
  exact ⟨⟨a, b, rs, ls⟩, hr, rfl⟩
theorem net_of (y : List IV) (h : Sh.hasL netSh y) : ∃ n : Net, n.wf ∧ y.map AV.im = [.im (.sl 4 (n.seats.map Seat.iv)), .im (.sl 4 (n.routers.map Router.iv))] := by
  obtain ⟨a, _, rfl, ha, h⟩ := hasL_cons h
  obtain ⟨b, _, rfl, hb, h⟩ := hasL_cons h
  cases hasL_nil h
  obtain ⟨a, rfl, wa⟩ := has_sl ha
  obtain ⟨b, rfl, wb⟩ := has_sl hb
  obtain ⟨ss, rfl, _⟩ := rows_of seat_of a wa
  obtain ⟨rs, rfl, hr⟩ := rows_of router_of b wb
  exact ⟨⟨ss, rs⟩, hr, rfl⟩
theorem addr_of (y : List IV) (h : Sh.hasL addrSh y) : ∃ a : Addr4, a.wf ∧ y.map AV.im = [.int .u64 a.hi, .int .u64 a.lo] := by
  obtain ⟨a, _, rfl, ha, h⟩ := hasL_cons h
  obtain ⟨b, _, rfl, hb, h⟩ := hasL_cons h
  cases hasL_nil h
  obtain ⟨a, rfl, wa⟩ := has_int ha
  obtain ⟨b, rfl, wb⟩ := has_int hb
  exact ⟨⟨a, b⟩, ⟨(u64_wf wa).1, (u64_wf wa).2, u64_wf wb⟩, rfl⟩
theorem hasArgs_cons {s : List Sh} {l : List (List Sh)} {xs : List (List IV)} (h : hasArgs (s :: l) xs) : ∃ y ys, xs = y :: ys ∧ Sh.hasL s y ∧ hasArgs l ys := h
/-- A net, whether six, an address. -/
theorem args_net {xs : List (List IV)} (h : hasArgs [netSh, [.bool], addrSh] xs) : ∃ (n : Net) (six : Bool) (a : Addr4), n.wf ∧ a.wf ∧ argsAV Tryz.prog [25, 4, 28] xs = [n.av, .bool six, a.av] := by
  obtain ⟨x, _, rfl, hx, h⟩ := hasArgs_cons h
  obtain ⟨y, _, rfl, hy, h⟩ := hasArgs_cons h
  obtain ⟨z, _, rfl, hz, h⟩ := hasArgs_cons h
  cases h
  obtain ⟨n, hn, en⟩ := net_of x hx
  obtain ⟨b, _, rfl, hb, hy⟩ := hasL_cons hy
  cases hasL_nil hy
  obtain ⟨six, rfl⟩ := has_bool hb
  obtain ⟨a, ha, ea⟩ := addr_of z hz
  refine ⟨n, six, a, hn, ha, ?_⟩
  simp only [argsAV, argAV, Tryz.underlying25, Tryz.underlying4, Tryz.underlying28, en, ea]
  rfl
end Go.Am

set_option linter.unusedVariables false
set_option linter.unusedSimpArgs false
set_option pp.deepTerms false
set_option pp.deepTerms.threshold 40
namespace Go.Am
open Go.Proofs

/-! ### which routers' fates differ: the document -/
def firstV (l : List Fate) (r : Int) : Verd := (firstF l r).getD ⟨0, 0⟩
theorem firstF_none {l : List Fate} {r : Int} : firstF l r = none ↔ ∀ f ∈ l, f.router ≠ r := by
  induction l with
  | nil => simp [firstF]
  | cons f l ih =>
    rw [firstF]
    by_cases h : f.router = r
    · simp [h]
    · simp [h, ih]
theorem firstF_step (l : List Fate) (r : Int) (k : Nat) (h : k < l.length) (hn : ∀ f ∈ l.take k, f.router ≠ r) :
    (l[k].router = r → firstF l r = some l[k].v) ∧ (l[k].router ≠ r → ∀ f ∈ l.take (k + 1), f.router ≠ r) := by
  constructor
  · intro hr
    have : ∀ (l : List Fate) (k : Nat) (h : k < l.length), (∀ f ∈ l.take k, f.router ≠ r) → l[k].router = r → firstF l r = some l[k].v := by
      intro l
      induction l with
      | nil => intro k h; simp at h
      | cons f l ih =>
        intro k h hn hr
        cases k with
        | zero => simp at hr; simp [firstF, hr]
        | succ k =>
          have hf : f.router ≠ r := hn f (by simp)
          rw [firstF, if_neg hf]
          exact ih k (by simpa using h) (fun g hg => hn g (by simp [hg])) (by simpa using hr)
    exact this l k h hn hr
  · intro hr f hf
    rw [List.take_add_one, List.getElem?_eq_getElem h] at hf
    rcases List.mem_append.1 hf with hf | hf
    · exact hn f hf
    · simp at hf; subst hf; exact hr
/-- A number put into a row. -/
def putI (D : List Int) (i : Nat) (r : Int) : List Int := D.take i ++ r :: D.drop i
theorem putI_len (D : List Int) (i : Nat) (r : Int) (h : i ≤ D.length) : (putI D i r).length = D.length + 1 := by simp [putI]; omega
theorem putI_mem (D : List Int) (i : Nat) (r x : Int) : x ∈ putI D i r ↔ x ∈ D ∨ x = r := by
  unfold putI
  conv => rhs; rw [← List.take_append_drop i D]
  simp only [List.mem_append, List.mem_cons]
  grind
theorem putI_sorted {D : List Int} {i : Nat} {r : Int} (hD : D.Pairwise (· < ·)) (h1 : ∀ x ∈ D.take i, x < r) (h2 : ∀ x ∈ D.drop i, r < x) : (putI D i r).Pairwise (· < ·) := by
  unfold putI
  have h := hD
  rw [← List.take_append_drop i D, List.pairwise_append] at h
  rw [List.pairwise_append]
  refine ⟨h.1, List.pairwise_cons.2 ⟨h2, h.2.1⟩, fun x hx y hy => ?_⟩
  rcases List.mem_cons.1 hy with rfl | hy
  · exact h1 x hx
  · exact h.2.2 x hx y hy
theorem modL {α : Type} : ∀ (A : List α) (x : α) (B : List α) (f : α → α), (A ++ x :: B).modify A.length f = A ++ f x :: B
  | [], x, B, f => rfl
  | a :: A, x, B, f => by
    have := modL A x B f
    simp only [List.cons_append, List.length_cons, List.modify_succ_cons]
    rw [this]
theorem rowI_put (D : List Int) (i : Nat) (r : Int) (m m' q : Nat) (h : i ≤ D.length) (hm : m = D.length - i) (hm' : m' = D.length + 1 - i) (hq : q = D.length + 1) :
    (List.take (i + 1) (rowI D ++ [[IV.sc (.int .i64 0)]]) ++ (List.take m (List.take m' (List.drop i (rowI D ++ [[IV.sc (.int .i64 0)]]))) ++ List.drop q (rowI D ++ [[IV.sc (.int .i64 0)]]))).modify i (fun x => IV.sc (.int .i64 r) :: x.tail) = rowI (putI D i r) := by
  subst hm hm' hq
  have e0 : (rowI D ++ [[IV.sc (.int .i64 0)]]) = (D ++ [0]).map fun x => [IV.sc (.int .i64 x)] := by simp [rowI]
  have e1 : List.take (D.length - i) (List.take (D.length + 1 - i) (List.drop i (D ++ [0]))) = List.drop i D := by
    rw [List.take_take, Nat.min_eq_left (by omega), List.drop_append, List.take_append]
    simp
    rw [List.take_of_length_le (by simp)]
  have e2 : List.drop (D.length + 1) (D ++ [0]) = [] := by simp
  rw [e0, ← List.map_drop, ← List.map_take, ← List.map_take, ← List.map_take, ← List.map_drop, e1, e2]
  have e3 : ∃ z, List.take (i + 1) (D ++ [0]) = List.take i D ++ [z] := by
    have hl : i < (D ++ [0]).length := by simp; omega
    refine ⟨(D ++ [0])[i], ?_⟩
    rw [List.take_add_one, List.getElem?_eq_getElem hl, List.take_append]
    simp
    omega
  obtain ⟨z, e3⟩ := e3
  rw [e3, putI]
  have hti : (List.take i D).length = i := by simp; omega
  simp only [rowI, List.map_append, List.map_cons, List.map_nil, List.append_nil, List.append_assoc, List.singleton_append]
  have hmod := modL (List.map (fun x => [IV.sc (.int .i64 x)]) (List.take i D)) [IV.sc (.int .i64 z)] (List.map (fun x => [IV.sc (.int .i64 x)]) (List.drop i D)) (fun x => IV.sc (.int .i64 r) :: x.tail)
  rw [List.length_map, hti] at hmod
  exact hmod
end Go.Am

set_option linter.unusedVariables false
set_option linter.unusedSimpArgs false
set_option pp.deepTerms false
set_option pp.deepTerms.threshold 40
namespace Go.Am
open Go.Proofs

def seenF (L : List Fate) (a b : List Fate) (r : Int) : Prop := (∃ f ∈ L, f.router = r) ∧ firstF a r ≠ firstF b r
theorem seenF_all (a b : List Fate) (r : Int) : seenF (a ++ b) a b r ↔ firstF a r ≠ firstF b r := by
  constructor
  · exact fun h => h.2
  · intro h
    refine ⟨?_, h⟩
    apply Classical.byContradiction
    intro hn
    have h1 : firstF a r = none := firstF_none.2 fun f hf e => hn ⟨f, by simp [hf], e⟩
    have h2 : firstF b r = none := firstF_none.2 fun f hf e => hn ⟨f, by simp [hf], e⟩
    exact h (by rw [h1, h2])
theorem seenF_step (L a b : List Fate) (k : Nat) (h : k < L.length) (r : Int) : seenF (L.take (k + 1)) a b r ↔ seenF (L.take k) a b r ∨ (r = L[k].router ∧ firstF a r ≠ firstF b r) := by
  unfold seenF
  rw [List.take_add_one, List.getElem?_eq_getElem h]
  simp only [Option.toList_some, List.mem_append, List.mem_singleton]
  constructor
  · rintro ⟨⟨f, hf | hf, e⟩, h2⟩
    · exact .inl ⟨⟨f, hf, e⟩, h2⟩
    · subst hf; exact .inr ⟨e.symm, h2⟩
  · rintro (⟨⟨f, hf, e⟩, h2⟩ | ⟨e, h2⟩)
    · exact ⟨⟨f, .inl hf, e⟩, h2⟩
    · exact ⟨⟨L[k], .inr rfl, e.symm⟩, h2⟩
theorem firstF_eq (a b : List Fate) (r : Int) (hr : (firstF a r).isSome = true ∨ (firstF b r).isSome = true) :
    (firstF a r = firstF b r) ↔ (firstF a r).isSome = true ∧ (firstF b r).isSome = true ∧ (firstV a r).kind = (firstV b r).kind ∧ (firstV a r).at_ = (firstV b r).at_ := by
  unfold firstV
  cases h1 : firstF a r with
  | none =>
    cases h2 : firstF b r with
    | none => simp [h1, h2] at hr
    | some v => simp
  | some u =>
    cases h2 : firstF b r with
    | none => simp
    | some v =>
      have := verd_ne u v
      simp only [Option.some.injEq, Option.isSome_some, Option.getD_some, true_and]
      constructor
      · rintro rfl; exact ⟨rfl, rfl⟩
      · intro h; exact Classical.byContradiction fun hn => this.1 hn h
theorem fates_get (L : List Fate) (k : Nat) (h : k < L.length) : (L.map Fate.iv)[k]? = some L[k].iv := by simp [h]
end Go.Am

set_option linter.unusedVariables false
set_option linter.unusedSimpArgs false
set_option pp.deepTerms false
set_option pp.deepTerms.threshold 40
namespace Go.Am
open Go.Proofs

/-! ### the law JudgeCounts -/
theorem pick_of (Q : Int → Prop) : ∀ L : List Int, ∃ M : List Int, M.Nodup ∧ ∀ x, x ∈ M ↔ x ∈ L ∧ Q x
  | [] => ⟨[], List.nodup_nil, by simp⟩
  | y :: L => by
    obtain ⟨M, hM, h⟩ := pick_of Q L
    by_cases hy : Q y ∧ y ∉ M
    · refine ⟨y :: M, List.nodup_cons.2 ⟨hy.2, hM⟩, fun x => ?_⟩
      rw [List.mem_cons, List.mem_cons, h]
      constructor
      · rintro (rfl | ⟨h1, h2⟩)
        · exact ⟨.inl rfl, hy.1⟩
        · exact ⟨.inr h1, h2⟩
      · rintro ⟨rfl | h1, h2⟩
        · exact .inl rfl
        · exact .inr ⟨h1, h2⟩
    · refine ⟨M, hM, fun x => ?_⟩
      rw [List.mem_cons, h]
      constructor
      · rintro ⟨h1, h2⟩; exact ⟨.inr h1, h2⟩
      · rintro ⟨rfl | h1, h2⟩
        · apply Classical.byContradiction
          intro hn
          exact hy ⟨h2, fun hm => hn ((h x).1 hm)⟩
        · exact ⟨h1, h2⟩
theorem diff_of (a b : List Fate) : ∃ D : List Int, D.Pairwise (· < ·) ∧ ∀ r, r ∈ D ↔ firstF a r ≠ firstF b r := by
  obtain ⟨M, hM, h⟩ := pick_of (fun r => firstF a r ≠ firstF b r) ((a ++ b).map Fate.router)
  have hp := sortI_perm M
  refine ⟨sortI M, ?_, fun r => ?_⟩
  · have h1 := sortI_sorted M
    have h2 : (sortI M).Nodup := hp.nodup_iff.2 hM
    exact (h1.and h2).imp fun ⟨h3, h4⟩ => by omega
  · rw [hp.mem_iff, h]
    constructor
    · exact fun h => h.2
    · intro hr
      have := (seenF_all a b r).2 hr
      obtain ⟨⟨f, hf, e⟩, _⟩ := this
      exact ⟨List.mem_map.2 ⟨f, hf, e⟩, hr⟩
theorem bulk_sl (k : Nat) (A : List (List IV)) (hA : ∀ y ∈ A, Sh.hasL fateSh y) : A.length ≤ IV.bulkRow [.sl k A] := by
  have := IV.bulkRows_len (l := A) fun y hy e => by
    have := hA y hy
    rw [e] at this
    obtain ⟨_, _, h, _⟩ := hasL_cons this
    cases h
  simp only [IV.bulkRow, IV.bulk]
  omega
/-- Two lists of fates, a kind. -/
theorem args_fates {xs : List (List IV)} (h : hasArgs [[.sl fateSh], [.sl fateSh], [.int .u8]] xs) (hB : IV.bulkRows xs ≤ 1048576) : ∃ (a b : List Fate) (kind : Int), a.length ≤ 100000000 ∧ b.length ≤ 100000000 ∧
    argsAV Tryz.prog [30, 30, 34] xs = [.im (.sl 3 (a.map Fate.iv)), .im (.sl 3 (b.map Fate.iv)), .int .u8 kind] := by
  obtain ⟨x, _, rfl, hx, h⟩ := hasArgs_cons h
  obtain ⟨y, _, rfl, hy, h⟩ := hasArgs_cons h
  obtain ⟨z, _, rfl, hz, h⟩ := hasArgs_cons h
  cases h
  obtain ⟨x1, _, rfl, hx1, hx⟩ := hasL_cons hx
  cases hasL_nil hx
  obtain ⟨y1, _, rfl, hy1, hy⟩ := hasL_cons hy
  cases hasL_nil hy
  obtain ⟨z1, _, rfl, hz1, hz⟩ := hasL_cons hz
  cases hasL_nil hz
  obtain ⟨A, rfl, hA⟩ := has_sl hx1
  obtain ⟨B, rfl, hBB⟩ := has_sl hy1
  obtain ⟨kind, rfl, _⟩ := has_int hz1
  have l1 := bulk_sl fateSh.length A hA
  have l2 := bulk_sl fateSh.length B hBB
  simp only [IV.bulkRows] at hB
  obtain ⟨a, rfl, _⟩ := rows_of fate_of A hA
  obtain ⟨b, rfl, _⟩ := rows_of fate_of B hBB
  rw [List.length_map] at l1 l2
  refine ⟨a, b, kind, by omega, by omega, ?_⟩
  simp only [argsAV, argAV, Tryz.underlying30, Tryz.underlying34]
  rfl
end Go.Am

set_option linter.unusedVariables false
set_option linter.unusedSimpArgs false
set_option pp.deepTerms false
set_option pp.deepTerms.threshold 40
namespace Go.Am
open Go.Proofs

/-! ### the hop, and the closure of the law JudgeNext -/
theorem hopN_spec (n : Net) (x : Int) (six : Bool) (a : Addr4) (hw : n.wf) (ha : a.wf) :
    FSpec Tryz.prog 9 [n.av, .int .i64 x, .bool six, a.av] [] (.tup [(if rightN n six a then hopN n six a x else ⟨0, 0⟩).av, .int .i64 (if rightN n six a then 0 else 2)]) [] := by
  refine FSpec.of_z (q := []) Tryz.func9 (by kernel_rfl) rfl Tryz.ntmps9 Tryz.results9 hP (by kernel_rfl) (by simp) (by first | rfl | simp) ?_
  have hc := checkN_spec n
  simp
  first | refine CallK.same (hc) rfl rfl ?_ | refine CallQ.same (hc) rfl rfl ?_ | refine CallQG.same _ (hc) rfl ?_ | refine CallG.same _ (hc) rfl ?_ | refine CallK.pv (hc) rfl rfl ?_
  simp
  cases h1 : netOk n with
  | false =>
    simp
    first | refine CallK.same (rightA_spec six a) rfl rfl ?_ | refine CallQ.same (rightA_spec six a) rfl rfl ?_ | refine CallQG.same _ (rightA_spec six a) rfl ?_ | refine CallG.same _ (rightA_spec six a) rfl ?_ | refine CallK.pv (rightA_spec six a) rfl rfl ?_
    simp
    refine EndZ.ret [] (.tup [.agg [.int .u8 0, .int .i64 0], .int .i64 2]) (by simp) ?_
    simp [rightN, h1]
  | true =>
    simp
    first | refine CallK.same (rightA_spec six a) rfl rfl ?_ | refine CallQ.same (rightA_spec six a) rfl rfl ?_ | refine CallQG.same _ (rightA_spec six a) rfl ?_ | refine CallG.same _ (rightA_spec six a) rfl ?_ | refine CallK.pv (rightA_spec six a) rfl rfl ?_
    simp
    cases h2 : rightA six a with
    | false =>
      simp
      refine EndZ.ret [] (.tup [.agg [.int .u8 0, .int .i64 0], .int .i64 2]) (by simp) ?_
      simp [rightN, h1, h2]
    | true =>
      simp
      first | refine CallK.same (doesN_spec n x six a h1 hw ha h2) rfl rfl ?_ | refine CallQ.same (doesN_spec n x six a h1 hw ha h2) rfl rfl ?_ | refine CallQG.same _ (doesN_spec n x six a h1 hw ha h2) rfl ?_ | refine CallG.same _ (doesN_spec n x six a h1 hw ha h2) rfl ?_ | refine CallK.pv (doesN_spec n x six a h1 hw ha h2) rfl rfl ?_
      simp
      refine EndZ.ret [] (.tup [.agg [.int .u8 (doesF n x six a).kind, .int .i64 (doesF n x six a).peer], .int .i64 0]) (by simp) ?_
      simp [rightN, h1, h2, hopN]
/-! ### what a router's fate has to do with the next one's -/
theorem Goes.less {H : Int → Hop} {W : List Int} {r : Int} {res : List Int × Verd} (h : Goes H W r res) : ∀ {A B : List Int}, W = A ++ B → (∀ z ∈ A, res.2 ≠ ⟨4, z⟩) → ∃ w, Goes H B r (w, res.2) := by
  induction h with
  | ends h => intro A B _ _; exact ⟨_, .ends h⟩
  | again h hp =>
    intro A B e hA
    subst e
    rcases List.mem_append.1 hp with hp | hp
    · exact absurd rfl (hA _ hp)
    · exact ⟨_, .again h hp⟩
  | step h hp _ ih =>
    intro A B e hA
    subst e
    obtain ⟨w, hw⟩ := ih (A := A) (B := B ++ [(H _).peer]) (by rw [List.append_assoc]) hA
    exact ⟨w, .step h (fun hm => hp (List.mem_append_right _ hm)) hw⟩
theorem Goes.kind {H : Int → Hop} {W : List Int} {r : Int} {res : List Int × Verd} (h : Goes H W r res) : res.2.kind = 1 ∨ res.2.kind = 2 ∨ res.2.kind = 3 ∨ res.2.kind = 4 := by
  induction h with
  | ends h =>
    simp only [endsF]
    repeat' split
    all_goals simp
  | again h hp => simp
  | step _ _ _ ih => exact ih
theorem wayN_kind (n : Net) (six : Bool) (a : Addr4) (r : Int) : (wayN n six a r).2.kind = 1 ∨ (wayN n six a r).2.kind = 2 ∨ (wayN n six a r).2.kind = 3 ∨ (wayN n six a r).2.kind = 4 := (wayN_goes n six a r).kind
theorem wayN_stays (n : Net) (six : Bool) (a : Addr4) (r : Int) (h : ¬ (hopN n six a r).kind = 1) : (wayN n six a r).2.at_ = r := by
  have hm : ¬ moves (hopN n six a) r := fun hm => by
    have := hopN_kind n six a r
    obtain ⟨h0, h2, h3⟩ := hm
    omega
  have := (wayN_goes n six a r).det (.ends hm)
  rw [this]
  rfl
theorem wayN_next (n : Net) (six : Bool) (a : Addr4) (r : Int) (h : (hopN n six a r).kind = 1) (hv : (wayN n six a r).2 ≠ ⟨4, r⟩) : (wayN n six a (hopN n six a r).peer).2 = (wayN n six a r).2 := by
  have hg := wayN_goes n six a r
  have hm : moves (hopN n six a) r := ⟨by omega, by omega, by omega⟩
  generalize wayN n six a r = res at *
  generalize hW : ([r] : List Int) = W at hg
  cases hg with
  | ends h' => exact absurd hm h'
  | again _ hp =>
    subst hW
    rw [List.mem_singleton] at hp
    exact absurd (by rw [hp]) hv
  | step _ hp hs =>
    subst hW
    obtain ⟨w, hw⟩ := hs.less (A := [r]) (B := [(hopN n six a r).peer]) rfl (fun z hz => by rw [List.mem_singleton] at hz; subst hz; exact hv)
    have := (wayN_goes n six a (hopN n six a r).peer).det hw
    rw [this]
theorem wayN_out (n : Net) (six : Bool) (a : Addr4) (r : Int) (h : r ∉ idsN n) : (wayN n six a r).2 = ⟨3, r⟩ := by
  have h0 := hopN_out (six := six) (a := a) h
  have := (wayN_goes n six a r).det (.ends (fun hm => hm.1 (by rw [h0])))
  rw [this]
  simp [endsF, h0]
theorem firstF_fates (n : Net) (six : Bool) (a : Addr4) (r : Int) : ∀ l : List Router, firstF (l.map (fateN n six a)) r = if r ∈ l.map Router.id then some (wayN n six a r).2 else none
  | [] => by simp [firstF]
  | x :: l => by
    rw [List.map_cons, firstF, firstF_fates n six a r l]
    by_cases h : x.id = r
    · subst h; simp [fateN]
    · have : r ∈ (x :: l).map Router.id ↔ r ∈ l.map Router.id := by simp [Ne.symm h]
      have hr : (fateN n six a x).router = x.id := rfl
      simp only [this, hr]
      rw [if_neg h]
theorem countF_sum : ∀ (l : List Fate) (p q s t : Int), (∀ f ∈ l, f.v.kind = 1 ∨ f.v.kind = 2 ∨ f.v.kind = 3 ∨ f.v.kind = 4) → countF 1 l p + countF 2 l q + countF 3 l s + countF 4 l t = p + q + s + t + l.length
  | [], p, q, s, t, _ => by simp [countF]
  | f :: l, p, q, s, t, h => by
    have ih := fun p q s t => countF_sum l p q s t fun g hg => h g (List.mem_cons_of_mem _ hg)
    simp only [countF, ih, List.length_cons]
    have := h f List.mem_cons_self
    split <;> split <;> split <;> split <;> omega
end Go.Am

set_option linter.unusedVariables false
set_option linter.unusedSimpArgs false
set_option pp.deepTerms false
set_option pp.deepTerms.threshold 40
namespace Go.Am
open Go.Proofs

/-! ### the law JudgeNext -/
theorem verd_eta (v : Verd) (k a : Int) : v = ⟨k, a⟩ ↔ v.kind = k ∧ v.at_ = a := by cases v; simp
end Go.Am

set_option linter.unusedVariables false
set_option linter.unusedSimpArgs false
set_option pp.deepTerms false
set_option pp.deepTerms.threshold 40
namespace Go.Am
open Go.Proofs

/-! ### a walk, router by router: the plain law -/
/-- Behind the routers l, all of which go on, the walk comes to r; all in all it is res. -/
structure WInv (H : Int → Hop) (ids : List Int) (res : List Int × Verd) (l : List Int) (r : Int) : Prop where
  mv : ∀ x ∈ l, moves H x
  len : l.length + roundsI ids l ≤ ids.length
  go : (r ∉ l ∧ Goes H (l ++ [r]) r res) ∨ (r ∈ l ∧ res = (l ++ [r], ⟨4, r⟩))
theorem WInv.start {H : Int → Hop} {ids : List Int} {res : List Int × Verd} {r : Int} (h : Goes H [r] r res) : WInv H ids res [] r where
  mv := fun x hx => (by cases hx)
  len := by have : roundsI ids [] ≤ ids.length := List.countP_le_length; simpa using this
  go := .inl ⟨by simp, h⟩
theorem WInv.seen {H : Int → Hop} {ids : List Int} {res : List Int × Verd} {l : List Int} {r : Int} (h : WInv H ids res l r) (hr : r ∈ l) : res = (l ++ [r], ⟨4, r⟩) ∧ moves H r := by
  rcases h.go with ⟨h1, _⟩ | ⟨_, h2⟩
  · exact absurd hr h1
  · exact ⟨h2, h.mv r hr⟩
theorem WInv.stop {H : Int → Hop} {ids : List Int} {res : List Int × Verd} {l : List Int} {r : Int} (h : WInv H ids res l r) (hr : r ∉ l) (hm : ¬ moves H r) : res = (l ++ [r], endsF (H r) r) := by
  rcases h.go with ⟨_, h1⟩ | ⟨h1, _⟩
  · exact h1.det (.ends hm)
  · exact absurd h1 hr
theorem WInv.next {H : Int → Hop} {ids : List Int} {res : List Int × Verd} {l : List Int} {r : Int} (h : WInv H ids res l r) (hl : ∀ x, moves H x → x ∈ ids) (hr : r ∉ l) (hm : moves H r) :
    WInv H ids res (l ++ [r]) (H r).peer ∧ roundsI ids (l ++ [r]) < roundsI ids l := by
  have hst := roundsI_step (hl r hm) hr
  refine ⟨{ mv := fun x hx => ?_, len := ?_, go := ?_ }, hst⟩
  · rcases List.mem_append.1 hx with hx | hx
    · exact h.mv x hx
    · rw [List.mem_singleton] at hx; subst hx; exact hm
  · have := h.len; simp; omega
  · rcases h.go with ⟨_, h1⟩ | ⟨h1, _⟩
    · generalize hW : l ++ [r] = W at h1
      cases h1 with
      | ends h' => exact absurd hm h'
      | again _ hp => right; subst hW; exact ⟨hp, rfl⟩
      | step _ hp hs => left; subst hW; exact ⟨hp, hs⟩
    · exact absurd h1 hr

def kindsIV : List IV := [.sc (.int .u8 3), .sc (.int .u8 4), .sc (.int .u8 1), .sc (.int .u8 2)]
def kindsO : AObj := .gl [(0, kindsIV)]
def tripC (n : Net) (six : Bool) (a : Addr4) : List AV := [.im (.sl 4 (n.seats.map Seat.iv)), .im (.sl 4 (n.routers.map Router.iv)), .bool six, .int .u64 a.hi, .int .u64 a.lo]
theorem steps_spec (n : Net) (six : Bool) (a : Addr4) (r : Int) : FSpec Tryz.prog 28 [.ptr 0 0, .int .i64 r] [.box 96 (tripC n six a)] (.fn 44 [.ptr 1 0, .ptr 2 0])
    [.box 96 (tripC n six a), .box 68 [.ptr 0 0], .box 3 [.int .i64 r]] := by
  refine FSpec.of_o (q := []) Tryz.func28 (by kernel_rfl) rfl Tryz.ntmps28 Tryz.results28 hP (by kernel_rfl) (by simp) (by first | rfl | simp) ?_
  simp
  refine EndO.ret [] [0, 1, 2] _ rfl ?_
  simp [tripC]
theorem start_spec (n : Net) (six : Bool) (a : Addr4) (r : Int) (ha : a.wf) (h1 : rightN n six a = true) (h2 : 0 ≤ r ∧ r ≤ 1048576) :
    FSpec Tryz.prog 17 [n.av, .int .i64 r, .bool six, a.av] [] (.tup [.ptr 0 0, .int .i64 0]) [.box 96 (tripC n six a)] := by
  have e1 : netOk n = true := by unfold rightN at h1; simp at h1; exact h1.1
  have e2 : rightA six a = true := by unfold rightN at h1; simp at h1; exact h1.2
  refine FSpec.of_o (q := []) Tryz.func17 (by kernel_rfl) rfl Tryz.ntmps17 Tryz.results17 hP (by kernel_rfl) (by simp) (by first | rfl | simp) ?_
  simp
  first | refine CallK.same (checkN_spec n) rfl rfl ?_ | refine CallQ.same (checkN_spec n) rfl rfl ?_ | refine CallQG.same _ (checkN_spec n) rfl ?_ | refine CallG.same _ (checkN_spec n) rfl ?_ | refine CallK.pv (checkN_spec n) rfl rfl ?_
  simp [e1]
  first | refine CallK.same (rightA_spec six a) rfl rfl ?_ | refine CallQ.same (rightA_spec six a) rfl rfl ?_ | refine CallQG.same _ (rightA_spec six a) rfl ?_ | refine CallG.same _ (rightA_spec six a) rfl ?_ | refine CallK.pv (rightA_spec six a) rfl rfl ?_
  simp [e2, show ¬ r < 0 by omega, show ¬ r > 1048576 by omega]
  refine EndO.ret [] [2] _ rfl ?_
  simp [tripC]
end Go.Am

set_option linter.unusedVariables false
set_option linter.unusedSimpArgs false
set_option pp.deepTerms false
set_option pp.deepTerms.threshold 40
namespace Go.Am
open Go.Proofs

/-! ### a walk: the program -/
def seenK (l : List Int) : List (Int × Bool) := l.foldl (fun K x => kput K x true) []
theorem seenK_snoc (l : List Int) (x : Int) : seenK (l ++ [x]) = kput (seenK l) x true := by simp [seenK]
theorem kget_seen (l : List Int) (y : Int) : kget (seenK l) y = if y ∈ l then some true else none := by
  have key : ∀ (l : List Int) (K : List (Int × Bool)), kget (l.foldl (fun K x => kput K x true) K) y = if y ∈ l then some true else kget K y := by
    intro l
    induction l with
    | nil => intro K; simp
    | cons x l ih =>
      intro K
      rw [List.foldl_cons, ih, kget_put]
      by_cases h1 : y ∈ l
      · simp [h1]
      · by_cases h2 : y = x <;> simp [h1, h2]
  exact key l []
def bAV (b : Bool) : AV := .bool b
theorem ren_bmap (ρ : Nat → Nat) : ∀ K : List (Int × Bool), renM ρ (kmap bAV K) = kmap bAV K
  | [] => rfl
  | (k, b) :: K => by
    have ih := ren_bmap ρ K
    simp only [kmap, List.map_cons, renM] at ih ⊢
    rw [ih]; rfl
theorem rowI_snoc (l : List Int) (x : Int) : rowI (l ++ [x]) = rowI l ++ [[.sc (.int .i64 x)]] := by simp [rowI]
theorem endRd_exit {a : Go.Act} {b : Nat} {r : Loop} {szI : Nat} {k : Bool → St → Prop} {f : List (Nat × AV)} {o : List (Nat × AObj)} {n sz : Nat} {g : Option Bool} {frI : List (Nat × AV)} (i n3 n2 : Nat) (h3 : look o n3 = some (.sv a frI)) (h2 : look o n2 = some (.lp b r .busy none))
    (h : k false ⟨frI, (n2, .lp b r .done (some (.exit i))) :: o, n, szI, g⟩) : endRd a b r szI k (.exit i) ⟨f, o, n, sz, g⟩ := ⟨n3, frI, n2, h3, h2, h⟩
set_option maxRecDepth 8000 in
set_option maxHeartbeats 4000000 in
theorem way1_spec (n : Net) (six : Bool) (a : Addr4) (r : Int) (hw : n.wf) (ha : a.wf) (h1 : rightN n six a = true) :
    FSpec Tryz.prog 18 [.ptr 1 0, .int .i64 r] [kindsO, .box 96 (tripC n six a)] (.tup [.im (.sl 1 (rowI (wayN n six a r).1)), (wayN n six a r).2.av]) [kindsO, .box 96 (tripC n six a)] := by
  have g1 : netOk n = true := by unfold rightN at h1; simp at h1; exact h1.1
  have g2 : rightA six a = true := by unfold rightN at h1; simp at h1; exact h1.2
  have hlen := netOk_len g1
  have hids : (idsN n).length = n.routers.length := by simp [idsN]
  refine FSpec.of_o (q := [(7, .m [.p [1], .p [], .e [19], .e [18, 20], .p [0, 1, 3], .e [6, 21]]), (10, .n 13)]) Tryz.func18 (by kernel_rfl) rfl Tryz.ntmps18 Tryz.results18 hP (by kernel_rfl) (by simp) (by first | rfl | simp) ?_
  simp [tripC, kindsO]
  refine CallO.mk [] [1] (steps_spec n six a r) (by simp) rfl (by simp [tripC]) (by simp [tripC]) (by simp [tripC]) ?_
  simp [tripC]
  simp [rangeK]
  intro a0 b rr
  refine ⟨_, _, _, [(0, .m [.p [], .p [], .p [], .p [], .p [], .p [], .p [], .p [], .p [], .p [], .p [], .p [], .p [], .e [8, 9, 13, 17], .a 0 1])], Tryz.func44, (by kernel_rfl), rfl, Tryz.ntmps44, Tryz.results44, (by kernel_rfl), (by simp), ?_⟩
  simp
  refine LoopK.nil (.cl 3 0 3 1) ?_
  simp
  refine LoopK.os (fun g : List Int × Int => [(0, .yld 11), (1, .ptr 8 0), (2, .ptr 9 0)])
    (fun g => [.gl [(0, kindsIV)], .box 96 (tripC n six a), .box 36 [.int .u8 0, .int .i64 0], .box 39 [.row 4], .row 3 1 (rowI g.1), .mp .i64 (kmap bAV (seenK g.1)), .box 88 [.map 5], .box 52 [.undef, .undef], .box 68 [.ptr 1 0], .box 3 [.int .i64 g.2], .sv a0 [(8, .ptr 7 0), (7, .ptr 6 0), (6, .ptr 3 0), (5, .ptr 2 0)], .lp b rr .ready none])
    (fun g => WInv (hopN n six a) (idsN n) (wayN n six a r) g.1 g.2) (fun g => roundsI (idsN n) g.1) ([], r) [0, 1, 2, 3, 11, 4, 5, 6, 7, 8, 9, 10] (WInv.start (wayN_goes n six a r)) (by simp [rowI, seenK, kmap, renM, tripC]; rintro _ _ (⟨rfl, rfl⟩ | ⟨rfl, rfl⟩ | ⟨rfl, rfl⟩ | ⟨rfl, rfl⟩) <;> rfl) ?_
  rintro ⟨l, p⟩ hI
  simp only at hI
  have hll := hI.len
  simp [tripC]
  first | refine CallK.same (doesN_spec n p six a g1 hw ha g2) rfl rfl ?_ | refine CallQ.same (doesN_spec n p six a g1 hw ha g2) rfl rfl ?_ | refine CallQG.same _ (doesN_spec n p six a g1 hw ha g2) rfl ?_ | refine CallG.same _ (doesN_spec n p six a g1 hw ha g2) rfl ?_ | refine CallK.pv (doesN_spec n p six a g1 hw ha g2) rfl rfl ?_
  have hkind := hopN_kind n six a p
  have hseen := kget_seen l p
  have hmg := mget_kmap bAV (seenK l) p
  have hput := mput_kmap bAV (seenK l) p true
  have hs1 := hI.seen
  have hs2 := hI.stop
  have hs3 := hI.next (hopN_moves n six a)
  unfold hopN at hkind hs1 hs2 hs3
  try simp only at hs1 hs2 hs3
  try simp only at hkind
  have hmv : ∀ x, moves (fun x => doesF n x six a) x ↔ ¬ (doesF n x six a).kind = 0 ∧ ¬ (doesF n x six a).kind = 2 ∧ ¬ (doesF n x six a).kind = 3 := fun x => Iff.rfl
  rw [hmv] at hs1 hs2 hs3
  generalize wayN n six a r = W at *
  generalize doesF n p six a = h at *
  simp
  refine ⟨10, _, rfl, rfl, rfl, fun aI => ?_⟩
  simp [putL, asgK]
  refine ⟨11, by simp, ?_⟩
  simp
  refine ⟨⟨by omega, by unfold maxLen; omega⟩, ?_⟩
  have e1 : IntKind.i64.wrap (l.length : Int) = (l.length : Int) := wrap64 (by omega) (by omega)
  have hgl : (rowI l ++ [[IV.sc (Value.int .i64 p)]])[l.length]? = some [.sc (.int .i64 p)] := by
    rw [List.getElem?_append_right (by simp [rowI])]; simp [rowI]
  have hlt : (l.length : Int) < (l.length : Int) + 1 := by omega
  by_cases hp : p ∈ l
  · rw [if_pos hp] at hseen
    rw [hseen] at hmg
    obtain ⟨hW, hk0, hk2, hk3⟩ := hs1 hp
    have hk1 : h.kind = 1 := by omega
    simp [hmg, bAV]
    refine endRd_exit 0 13 11 (by simp; rfl) (by simp) ?_
    simp
    refine ⟨10, _, 11, .done, some (.exit 0), rfl, rfl, .inr rfl, ?_⟩
    simp [pendK, hk1, kindsIV, e1, hgl, hlt]
    refine EndO.ret [16] [0, 1] (.tup [.row 16, .agg [.int .u8 4, .int .i64 p]]) (by simp) ?_
    simp [hW, rowI_snoc, kindsIV, tripC]
  · rw [if_neg hp] at hseen
    rw [hseen] at hmg
    simp only [bAV] at hput
    simp [hmg, hput]
    refine endRd_normal 13 11 (by simp; rfl) (by simp) ?_
    simp
    refine ⟨fun hk1 => ?_, fun hk1 => ?_⟩
    · have hW := hs2 hp (by omega)
      refine ⟨10, _, 11, .ready, none, rfl, rfl, .inl rfl, ?_⟩
      rcases hkind with hk | hk | hk | hk
      · simp [pendK, hk, kindsIV, e1, hgl, hlt]
        refine EndO.ret [16] [0, 1] (.tup [.row 16, .agg [.int .u8 3, .int .i64 p]]) (by simp) ?_
        simp [hW, rowI_snoc, kindsIV, tripC, endsF, hk]
      · exact absurd hk hk1
      · simp [pendK, hk, kindsIV, e1, hgl, hlt]
        refine EndO.ret [16] [0, 1] (.tup [.row 16, .agg [.int .u8 1, .int .i64 p]]) (by simp) ?_
        simp [hW, rowI_snoc, kindsIV, tripC, endsF, hk]
      · simp [pendK, hk, kindsIV, e1, hgl, hlt]
        refine EndO.ret [16] [0, 1] (.tup [.row 16, .agg [.int .u8 2, .int .i64 p]]) (by simp) ?_
        simp [hW, rowI_snoc, kindsIV, tripC, endsF, hk]
    · obtain ⟨hI', hst⟩ := hs3 hp (by omega)
      refine Again.os (l ++ [p], h.peer) [0, 1, 2, 3, 16, 5, 6, 7, 8, 9, 10, 11] hI' hst ?_
      simp [rowI_snoc, seenK_snoc, renM, tripC]
      refine ⟨(ren_bmap _ _).symm, ?_⟩
      rintro _ _ (⟨rfl, rfl⟩ | ⟨rfl, rfl⟩ | ⟨rfl, rfl⟩ | ⟨rfl, rfl⟩) <;> rfl
theorem walk_spec (n : Net) (six : Bool) (a : Addr4) (r : Int) (hw : n.wf) (ha : a.wf) (h1 : rightN n six a = true) (h2 : 0 ≤ r ∧ r ≤ 1048576) :
    FSpec Tryz.prog 7 [n.av, .int .i64 r, .bool six, a.av] [kindsO] (.tup [.im (.sl 1 (rowI (wayN n six a r).1)), (wayN n six a r).2.av, .int .i64 0]) [kindsO] := by
  refine FSpec.of_o (q := [(5, .n 3)]) Tryz.func7 (by kernel_rfl) rfl Tryz.ntmps7 Tryz.results7 hP (by kernel_rfl) (by simp) (by first | rfl | simp) ?_
  simp [kindsO]
  refine CallK.outs [] (start_spec n six a r ha h1 h2) rfl ?_ ?_ ?_
  · simp
  · simp [AV.flat]
  simp [tripC]
  refine CallO.mk [] [0, 4] (way1_spec n six a r hw ha h1) (by simp) rfl (by simp [kindsO, tripC]) (by simp [kindsO, tripC]) (by simp [kindsO, tripC]) ?_
  simp [kindsO, tripC]
  refine EndO.ret [] [0] (.tup [.im (.sl 1 (rowI (wayN n six a r).1)), (wayN n six a r).2.av, .int .i64 0]) (by simp) ?_
  simp
end Go.Am

set_option linter.unusedVariables false
set_option linter.unusedSimpArgs false
set_option pp.deepTerms false
set_option pp.deepTerms.threshold 40
namespace Go.Am
open Go.Proofs

/-! ### the law JudgeWalks -/
set_option maxRecDepth 8000 in
set_option maxHeartbeats 1000000 in
theorem judgeWalks_spec (n : Net) (six : Bool) (a : Addr4) (hw : n.wf) (ha : a.wf) : FSpec Tryz.prog 3 [n.av, .bool six, a.av] [kindsO] (.bool true) [kindsO] := by
  have hF := fatesJ_spec n six a hw ha
  refine FSpec.of_o (q := [(12, .n 17)]) Tryz.func3 (by kernel_rfl) rfl Tryz.ntmps3 Tryz.results3 hP (by kernel_rfl) (by simp) (by first | rfl | simp) ?_
  simp -implicitDefEqProofs [kindsO]
  first | refine CallK.same (lives_spec) rfl rfl ?_ | refine CallQ.same (lives_spec) rfl rfl ?_ | refine CallQG.same _ (lives_spec) rfl ?_ | refine CallG.same _ (lives_spec) rfl ?_ | refine CallK.pv (lives_spec) rfl rfl ?_
  simp -implicitDefEqProofs
  first | refine CallK.same (hF) rfl rfl ?_ | refine CallQ.same (hF) rfl rfl ?_ | refine CallQG.same _ (hF) rfl ?_ | refine CallG.same _ (hF) rfl ?_ | refine CallK.pv (hF) rfl rfl ?_
  simp -implicitDefEqProofs
  cases e : rightN n six a with
  | false =>
    simp -implicitDefEqProofs [fatesN, e]
    refine EndO.ret [] [0] (.bool true) (by simp) (by simp)
  | true =>
    have h1 : netOk n = true := by unfold rightN at e; simp at e; exact e.1
    have hlen := netOk_len h1
    have hFe : fatesN n six a = n.routers.map (fateN n six a) := by simp [fatesN, e]
    rw [hFe]
    have hll : (n.routers.map (fateN n six a)).length = n.routers.length := by simp
    obtain ⟨F, hG⟩ : ∃ F, n.routers.map (fateN n six a) = F := ⟨_, rfl⟩
    rw [hG] at hll ⊢
    simp -implicitDefEqProofs [hll]
    refine LoopK.os (fun k : Nat => [(1, .bool six), (3, .ptr 1 0), (5, .ptr 2 0), (34, .im (.sl 3 (F.map Fate.iv))), (35, .int .i64 n.routers.length), (36, .int .i64 k)])
      (fun _ => [.gl [(0, kindsIV)], .box 25 [.im (.sl 4 (n.seats.map Seat.iv)), .im (.sl 4 (n.routers.map Router.iv))], .box 28 [.int .u64 a.hi, .int .u64 a.lo]])
      (fun k => k ≤ n.routers.length) (fun k => n.routers.length - k) 0 [0, 1, 2] (Nat.zero_le _) (by simp) ?_
    intro k hk
    by_cases hlt : k < n.routers.length
    · have e1 : IntKind.i64.wrap (k + 1) = (k + 1 : Nat) := wrap64 (by omega) (by omega)
      have hgr := List.getElem?_eq_getElem hlt
      obtain ⟨y, hy⟩ : ∃ y, n.routers[k] = y := ⟨_, rfl⟩
      rw [hy] at hgr
      have hym : y ∈ n.routers := by rw [← hy]; exact List.getElem_mem _
      have hgf : F[k]? = some ⟨y.id, (wayN n six a y.id).2⟩ := by
        rw [← hG, List.getElem?_map, hgr]; rfl
      have hid := netOk_ids h1 y.id (List.mem_map.2 ⟨y, hym, rfl⟩)
      have hws := walk_spec n six a y.id hw ha e hid
      generalize hWW : wayN n six a y.id = W at *
      have hltF : k < F.length := by omega
      have hf : F[k] = ⟨y.id, W.2⟩ := by
        have := List.getElem?_eq_getElem hltF
        rw [hgf] at this; exact (Option.some.inj this).symm
      simp -implicitDefEqProofs [hlt, hf, hll]
      refine CallO.mk [] [0] hws (by simp) rfl (by simp [kindsO]) (by simp [kindsO]) (by simp [kindsO]) ?_
      simp -implicitDefEqProofs [kindsO, hgr, hlt, hy]
      refine Again.os (k + 1) [0, 1, 2] hlt (by omega) ?_
      simp -implicitDefEqProofs [e1]
    · have hkk : k = n.routers.length := by omega
      subst hkk
      simp -implicitDefEqProofs
      refine EndO.ret [] [0] (.bool true) (by simp) (by simp)
end Go.Am
