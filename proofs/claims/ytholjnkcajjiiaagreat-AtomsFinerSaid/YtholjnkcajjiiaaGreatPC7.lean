import Derived.Laws.Externs
import Derived.Shelf.Spec.BitsCarry
import Derived.Test.YtholjnkcajjiiaaGreatPC3
import Derived.Test.YtholjnkcajjiiaaGreatPC4
import Derived.Test.YtholjnkcajjiiaaGreatPC6
set_option linter.unusedVariables false
set_option linter.unusedSimpArgs false
set_option pp.deepTerms false
set_option pp.deepTerms.threshold 40
namespace Go.Proofs
def Tryz.sortInt64_ren : Go.Shelf.Ren := ⟨fun | 5 => 99 | 8 => 142 | 7 => 141 | 19 => 186 | 20 => 187 | 10 => 177 | 11 => 178 | 12 => 179 | 13 => 180 | 14 => 181 | 15 => 182 | 16 => 183 | 17 => 184 | 18 => 185 | 30 => 220 | 31 => 221 | 32 => 222 | 33 => 223 | 34 => 224 | 35 => 219 | 40 => 248 | n => n, fun | 23 => 57 | 25 => 2 | 3 => 3 | 32 => 155 | 22 => 57 | 0 => 0 | 44 => 239 | 46 => 30 | 4 => 4 | 36 => 232 | 35 => 231 | 41 => 128 | 5 => 5 | 9 => 9 | 53 => 277 | 57 => 281 | 63 => 297 | 64 => 298 | n => n, fun | n => n⟩
theorem Tryz.sortInt64 : SlLaysM.n5 Tryz.prog Tryz.sortInt64_ren := {
  mixed := by kernel_rfl,
  f5 := ⟨Tryz.f99.name, by decide, Tryz.func99.trans (congrArg some (by kernel_rfl))⟩,
  f7 := ⟨Tryz.f141.name, by decide, Tryz.func141.trans (congrArg some (by kernel_rfl))⟩,
  f8 := Tryz.func142.trans (congrArg some (by kernel_rfl)),
  f10 := ⟨Tryz.f177.name, by decide, Tryz.func177.trans (congrArg some (by kernel_rfl))⟩,
  f11 := ⟨Tryz.f178.name, by decide, Tryz.func178.trans (congrArg some (by kernel_rfl))⟩,
  f12 := ⟨Tryz.f179.name, by decide, Tryz.func179.trans (congrArg some (by kernel_rfl))⟩,
  f13 := ⟨Tryz.f180.name, by decide, Tryz.func180.trans (congrArg some (by kernel_rfl))⟩,
  f14 := ⟨Tryz.f181.name, by decide, Tryz.func181.trans (congrArg some (by kernel_rfl))⟩,
  f15 := ⟨Tryz.f182.name, by decide, Tryz.func182.trans (congrArg some (by kernel_rfl))⟩,
  f16 := ⟨Tryz.f183.name, by decide, Tryz.func183.trans (congrArg some (by kernel_rfl))⟩,
  f17 := ⟨Tryz.f184.name, by decide, Tryz.func184.trans (congrArg some (by kernel_rfl))⟩,
  f18 := ⟨Tryz.f185.name, by decide, Tryz.func185.trans (congrArg some (by kernel_rfl))⟩,
  f19 := Tryz.func186.trans (congrArg some (by kernel_rfl)),
  f20 := Tryz.func187.trans (congrArg some (by kernel_rfl)),
  f30 := ⟨Tryz.f220.name, by decide, Tryz.func220.trans (congrArg some (by kernel_rfl))⟩,
  f31 := Tryz.func221.trans (congrArg some (by kernel_rfl)),
  f32 := Tryz.func222.trans (congrArg some (by kernel_rfl)),
  f33 := ⟨Tryz.f223.name, by decide, Tryz.func223.trans (congrArg some (by kernel_rfl))⟩,
  f34 := ⟨Tryz.f224.name, by decide, Tryz.func224.trans (congrArg some (by kernel_rfl))⟩,
  f35 := ⟨Tryz.f219.name, by decide, Tryz.func219.trans (congrArg some (by kernel_rfl))⟩,
  f40 := ⟨Tryz.f248.name, by decide, Tryz.func248.trans (congrArg some (by kernel_rfl))⟩,
  t0 := Tryz.underlying0,
  a0 := Tryz.isAgg0,
  z0 := Tryz.sizeOf0,
  v0 := Tryz.zeroValue0,
  t3 := Tryz.underlying3,
  a3 := Tryz.isAgg3,
  z3 := Tryz.sizeOf3,
  v3 := Tryz.zeroValue3,
  t4 := Tryz.underlying4,
  a4 := Tryz.isAgg4,
  z4 := Tryz.sizeOf4,
  v4 := Tryz.zeroValue4,
  t5 := Tryz.underlying5,
  a5 := Tryz.isAgg5,
  z5 := Tryz.sizeOf5,
  v5 := Tryz.zeroValue5,
  t9 := Tryz.underlying9,
  a9 := Tryz.isAgg9,
  z9 := Tryz.sizeOf9,
  v9 := Tryz.zeroValue9,
  t22 := Tryz.underlying57,
  a22 := Tryz.isAgg57,
  z22 := Tryz.sizeOf57,
  v22 := Tryz.zeroValue57,
  t23 := Tryz.underlying57,
  a23 := Tryz.isAgg57,
  z23 := Tryz.sizeOf57,
  v23 := Tryz.zeroValue57,
  t25 := Tryz.underlying2,
  a25 := Tryz.isAgg2,
  z25 := Tryz.sizeOf2,
  v25 := Tryz.zeroValue2,
  t32 := Tryz.underlying155,
  a32 := Tryz.isAgg155,
  z32 := Tryz.sizeOf155,
  v32 := Tryz.zeroValue155,
  t35 := Tryz.underlying231,
  a35 := Tryz.isAgg231,
  z35 := Tryz.sizeOf231,
  v35 := Tryz.zeroValue231,
  t36 := Tryz.underlying232,
  a36 := Tryz.isAgg232,
  z36 := Tryz.sizeOf232,
  v36 := Tryz.zeroValue232,
  t41 := Tryz.underlying128,
  a41 := Tryz.isAgg128,
  z41 := Tryz.sizeOf128,
  v41 := Tryz.zeroValue128,
  t44 := Tryz.underlying239,
  a44 := Tryz.isAgg239,
  z44 := Tryz.sizeOf239,
  v44 := Tryz.zeroValue239,
  t46 := Tryz.underlying30,
  a46 := Tryz.isAgg30,
  z46 := Tryz.sizeOf30,
  v46 := Tryz.zeroValue30,
  t53 := Tryz.underlying277,
  a53 := Tryz.isAgg277,
  z53 := Tryz.sizeOf277,
  v53 := Tryz.zeroValue277,
  t57 := Tryz.underlying281,
  a57 := Tryz.isAgg281,
  z57 := Tryz.sizeOf281,
  v57 := Tryz.zeroValue281,
  t63 := Tryz.underlying297,
  a63 := Tryz.isAgg297,
  z63 := Tryz.sizeOf297,
  v63 := Tryz.zeroValue297,
  t64 := Tryz.underlying298,
  a64 := Tryz.isAgg298,
  z64 := Tryz.sizeOf298,
  v64 := Tryz.zeroValue298 }
end Go.Proofs
namespace Go.Am
open Go.Proofs

theorem sort64_spec (l : List Int) (h : l.length ≤ 1000000000) : FSpec Tryz.prog 99 [.row 0] [.row 2 1 (rowN l)] (.tup []) [.row 2 1 (rowN (sortI l))] :=
  sortInts Tryz.sortInt64 2 l (by omega)
def dedup : List Int → List Int
  | [] => []
  | [x] => [x]
  | x :: y :: l => if x = y then dedup (y :: l) else x :: dedup (y :: l)
theorem dedup_snoc : ∀ (l : List Int) (x y : Int), dedup (l ++ [x, y]) = if x = y then dedup (l ++ [x]) else dedup (l ++ [x]) ++ [y]
  | [], x, y => by simp only [List.nil_append, dedup]; split <;> simp [*]
  | [a], x, y => by
    have := dedup_snoc [] x y
    simp only [List.nil_append, List.cons_append, dedup] at this ⊢
    by_cases h1 : x = y <;> by_cases h2 : a = x <;> simp [h1, h2]
  | a :: b :: l, x, y => by
    have := dedup_snoc (b :: l) x y
    simp only [List.cons_append, dedup] at this ⊢
    rw [this]
    by_cases h1 : x = y <;> by_cases h2 : a = b <;> simp [h1, h2]
theorem dedup_take {l : List Int} {j : Nat} (h : j + 1 < l.length) : dedup (l.take (j + 2)) = if l[j + 1] = l[j] then dedup (l.take (j + 1)) else dedup (l.take (j + 1)) ++ [l[j + 1]] := by
  have a1 : l.take (j + 2) = l.take (j + 1) ++ [l[j + 1]] := by rw [show j + 2 = (j + 1) + 1 from rfl, List.take_add_one, List.getElem?_eq_getElem h]; rfl
  have a2 : l.take (j + 1) = l.take j ++ [l[j]] := by rw [List.take_add_one, List.getElem?_eq_getElem (by omega)]; rfl
  have e1 : l.take (j + 2) = l.take j ++ [l[j], l[j + 1]] := by rw [a1, a2, List.append_assoc]; rfl
  have e2 : l.take (j + 1) = l.take j ++ [l[j]] := by
    rw [List.take_add_one, List.getElem?_eq_getElem (by omega)]
    rfl
  rw [e1, e2, dedup_snoc]
  by_cases hh : l[j] = l[j + 1]
  · rw [if_pos hh, if_pos hh.symm]
  · rw [if_neg hh, if_neg (fun x => hh x.symm)]
theorem dedup_small {l : List Int} (h : l.length < 2) : dedup l = l := by
  match l, h with
  | [], _ => rfl
  | [x], _ => rfl
theorem dedup_len : ∀ l : List Int, (dedup l).length ≤ l.length
  | [] => Nat.le_refl _
  | [x] => Nat.le_refl _
  | x :: y :: l => by
    have := dedup_len (y :: l)
    rw [dedup]
    split
    · simp only [List.length_cons] at *; omega
    · simp only [List.length_cons] at *; omega
@[simp] theorem rowN_len (l : List Int) : (rowN l).length = l.length := by simp [rowN]
theorem rowN_get {l : List Int} {i : Nat} (h : i < l.length) : (rowN l)[i]? = some [.sc (.int .i64 l[i])] := by simp [rowN, h]
@[simp] theorem rowN_getElem (l : List Int) (i : Nat) (h : i < (rowN l).length) : (rowN l)[i] = [.sc (.int .i64 (l[i]'(by simpa using h)))] := by simp [rowN]
/-- What the second loop keeps: `C` now stands where `xs` stood. -/
structure Cmpd (xs C : List Int) (k j : Nat) : Prop where
  len : C.length = xs.length
  k1 : 1 ≤ k
  kj : k + 1 ≤ j
  jl : j ≤ xs.length
  pre : C.take k = dedup (xs.take j)
  suf : ∀ i, j ≤ i + 1 → C[i]? = xs[i]?
theorem Cmpd.get {xs C : List Int} {k j i : Nat} (h : Cmpd xs C k j) (hi : j ≤ i + 1) (hx : i < xs.length) (hc : i < C.length) : C[i] = xs[i] := by
  have := h.suf i hi
  rw [List.getElem?_eq_getElem hx, List.getElem?_eq_getElem hc] at this
  exact Option.some.inj this
theorem Cmpd.skip {xs C : List Int} {k j : Nat} (h : Cmpd xs C k (j + 1)) (hj : j + 1 < xs.length) (he : xs[j + 1] = xs[j]) : Cmpd xs C k (j + 2) := by
  obtain ⟨a1, a2, a3, a4, a5, a6⟩ := h
  refine ⟨a1, a2, by omega, by omega, ?_, fun i hi => a6 i (by omega)⟩
  rw [dedup_take hj, if_pos he, a5]
theorem Cmpd.put {xs C : List Int} {k j : Nat} (h : Cmpd xs C k (j + 1)) (hj : j + 1 < xs.length) (he : ¬ xs[j + 1] = xs[j]) : Cmpd xs (C.set k xs[j + 1]) (k + 1) (j + 2) := by
  obtain ⟨a1, a2, a3, a4, a5, a6⟩ := h
  refine ⟨by simpa using a1, by omega, by omega, by omega, ?_, fun i hi => ?_⟩
  · rw [dedup_take hj, if_neg he, ← a5, List.take_add_one, List.getElem?_set_self (by omega), List.take_set_of_le (Nat.le_refl _)]
    rfl
  · rw [List.getElem?_set_ne (by omega)]
    exact a6 i (by omega)
set_option maxRecDepth 8000 in
set_option maxHeartbeats 2000000 in
theorem compact_spec (l : List Int) (hl : l.length ≤ 1000000000) :
    FSpec Tryz.prog 100 [.row 0] [.row 2 1 (rowN l)] (.im (.sl 1 (rowN (dedup l)))) [.gone] := by
  refine FSpec.of_o (q := [(6, .n 9), (11, .n 9)]) Tryz.func100 (by kernel_rfl) rfl Tryz.ntmps100 Tryz.results100 hP (by kernel_rfl) (by simp) (by first | rfl | simp) ?_
  simp -implicitDefEqProofs
  refine ⟨fun h => ?_, fun h2 => ?_⟩
  · refine EndO.ret [0] [0] (.row 0) (by simp) ?_
    simp -implicitDefEqProofs [dedup_small (show l.length < 2 by omega)]
  refine LoopK.os (fun k : Nat => [(0, .row 0), (3, .int .i64 k)])
    (fun _ => [.row 2 1 (rowN l)])
    (fun k => 1 ≤ k ∧ k ≤ l.length ∧ dedup (l.take k) = l.take k) (fun k => l.length - k) 1 [0] ⟨Nat.le_refl _, by omega, dedup_small (by simp; omega)⟩ (by simp) ?_
  rintro k ⟨hk1, hk, hR⟩
  by_cases hlt : k < l.length
  · obtain ⟨j, hj⟩ : ∃ j, k = j + 1 := ⟨k - 1, by omega⟩
    have e1 : IntKind.i64.wrap ((k : Int) - 1) = (j : Nat) := by rw [wrap64 (by omega) (by omega)]; omega
    have e2 : IntKind.i64.wrap ((k : Int) + 1) = (k + 1 : Nat) := wrap64 (by omega) (by omega)
    have hjl : j < l.length := by omega
    have hd : dedup (l.take (k + 1)) = if l[k] = l[j] then dedup (l.take k) else dedup (l.take k) ++ [l[k]] := by
      subst hj; exact dedup_take hlt
    simp -implicitDefEqProofs [hlt, hjl, e1, e2]
    refine ⟨fun heq => ⟨hk, ?_⟩, fun hne => ?_⟩
    · rw [if_pos heq] at hd
      have hd' := hd
      clear e1 e2 hd
      refine LoopK.os (fun g : Nat × Nat × List Int => [(0, .row 0), (3, .int .i64 g.1), (4, .sub 0 1 k (l.length - k)), (5, .int .i64 g.2.1)])
        (fun g => [.row 2 1 (rowN g.2.2)])
        (fun g => Cmpd l g.2.2 g.1 (k + g.2.1) ∧ 1 ≤ g.2.1) (fun g => l.length - (k + g.2.1)) (k, 1, l) [0] ⟨⟨rfl, hk1, Nat.le_refl _, hlt, by rw [hd', hR], fun i _ => rfl⟩, Nat.le_refl _⟩ (by simp) ?_
      rintro ⟨k', k2, C⟩ ⟨hC, hk2⟩
      simp only at hC hk2
      have c0 := hC.len
      have c1 := hC.k1
      have c2 := hC.kj
      have c3 := hC.jl
      by_cases hl2 : k2 < l.length - k
      · obtain ⟨i2, hi2⟩ : ∃ i2, k2 = i2 + 1 := ⟨k2 - 1, by omega⟩
        have e1 : IntKind.i64.wrap ((k2 : Int) - 1) = (i2 : Nat) := by rw [wrap64 (by omega) (by omega)]; omega
        have e2 : IntKind.i64.wrap ((k2 : Int) + 1) = (k2 + 1 : Nat) := wrap64 (by omega) (by omega)
        have e3 : IntKind.i64.wrap ((k' : Int) + 1) = (k' + 1 : Nat) := wrap64 (by omega) (by omega)
        have b1 : k + k2 < C.length := by omega
        have b2 : k + i2 < C.length := by omega
        have b3 : i2 < l.length - k := by omega
        have b4 : k' < C.length := by omega
        simp -implicitDefEqProofs [hl2, e1, e2, e3, b1, b2, b3, b4]
        have g1 := hC.get (i := k + k2) (by omega) (by omega) b1
        have g2 := hC.get (i := k + i2) (by omega) (by omega) b2
        have hmod := mod_set (fun x : Int => [IV.sc (.int .i64 x)]) C C[k + k2] k' (fun x => IV.sc (.int .i64 C[k + k2]) :: x.tail) (fun x => rfl)
        subst hi2
        refine ⟨by omega, fun hne => ⟨by omega, ?_⟩, fun he => ?_⟩
        · refine Again.os (k' + 1, i2 + 1 + 1, C.set k' C[k + (i2 + 1)]) [0] ⟨?_, by show 1 ≤ i2 + 1 + 1; omega⟩ (by show l.length - (k + (i2 + 1 + 1)) < l.length - (k + (i2 + 1)); omega) ?_
          · rw [g1]
            exact Cmpd.put (j := k + i2) hC (by omega) (by rw [← g2]; exact fun h => hne (g1.trans h))
          · show EntO _ _ _ _ _ _ _
            simp -implicitDefEqProofs [e2, e3]
            exact hmod
        · refine Again.os (k', i2 + 1 + 1, C) [0] ⟨?_, by show 1 ≤ i2 + 1 + 1; omega⟩ (by show l.length - (k + (i2 + 1 + 1)) < l.length - (k + (i2 + 1)); omega) ?_
          · exact Cmpd.skip (j := k + i2) hC (by omega) (by rw [← g2, ← he]; exact g1.symm)
          · simp -implicitDefEqProofs [e2]
      · have hkl : k + k2 = l.length := by omega
        have hpre := hC.pre
        rw [hkl, List.take_length] at hpre
        simp -implicitDefEqProofs [hl2]
        refine ⟨by omega, by omega, .inr ⟨by omega, ?_⟩⟩
        refine EndO.ret [1] [0] (.row 1) (by simp) ?_
        have ht : List.take k' (List.take k' (rowN C) ++ (List.replicate (C.length - k') [IV.sc (.int .i64 0)] ++ List.drop (k' + (C.length - k')) (rowN C))) = rowN (dedup l) := by
          rw [List.take_append_of_le_length (by simp; omega), List.take_take, Nat.min_self, ← hpre]
          simp [rowN]
        simp -implicitDefEqProofs [ht]
    · rw [if_neg hne, hR] at hd
      have ht : l.take k ++ [l[k]] = l.take (k + 1) := by rw [List.take_add_one, List.getElem?_eq_getElem hlt]; rfl
      refine Again.os (k + 1) [0] ⟨by omega, hlt, by rw [hd, ht]⟩ (by omega) ?_
      simp -implicitDefEqProofs [e2]
  · have : k = l.length := by omega
    subst this
    rw [List.take_length] at hR
    simp -implicitDefEqProofs
    refine EndO.ret [0] [0] (.row 0) (by simp) ?_
    simp -implicitDefEqProofs [hR]
end Go.Am


set_option linter.unusedVariables false
set_option linter.unusedSimpArgs false
set_option pp.deepTerms false
set_option pp.deepTerms.threshold 40
namespace Go.Am
open Go.Proofs

end Go.Am


set_option linter.unusedVariables false
set_option linter.unusedSimpArgs false
set_option pp.deepTerms false
set_option pp.deepTerms.threshold 40
namespace Go.Am
open Go.Proofs

abbrev Ivl := Int × Int
@[simp] def ivI (x : Ivl) : List IV := [.sc (.int .i64 x.1), .sc (.int .i64 x.2)]
@[simp] def fieldI : AV := .agg [.int .i64 0, .int .i64 1099511627776, .fn 174 [], .fn 175 [], .fn 176 []]
end Go.Am


set_option linter.unusedVariables false
set_option linter.unusedSimpArgs false
set_option pp.deepTerms false
set_option pp.deepTerms.threshold 40
namespace Go.Am
open Go.Proofs

end Go.Am


set_option linter.unusedVariables false
set_option linter.unusedSimpArgs false
set_option pp.deepTerms false
set_option pp.deepTerms.threshold 40
namespace Go.Am
open Go.Proofs

def Past.wf (p : Past) : Prop := p.base.wf ∧ ∀ e ∈ p.evs, 0 ≤ e.seq ∧ e.pfx.addr.wf
theorem allN_ok {n : Net} {l : List Ev} {hz : Int} (h : (allN n l hz).2.2 = 0) : netOk n = true := by
  cases hn : netOk n with
  | true => rfl
  | false => unfold allN at h; rw [if_pos hn] at h; cases h
end Go.Am


set_option linter.unusedVariables false
set_option linter.unusedSimpArgs false
set_option pp.deepTerms false
set_option pp.deepTerms.threshold 40
namespace Go.Am
open Go.Proofs

end Go.Am


set_option linter.unusedVariables false
set_option linter.unusedSimpArgs false
set_option pp.deepTerms false
set_option pp.deepTerms.threshold 40
namespace Go.Am
open Go.Proofs

theorem find_put {α : Type} (key : α → Int) (l : List α) (s : α) (r : Int) :
    (l.filter (fun a => decide (key a < key s)) ++ [s] ++ l.filter (fun a => decide (key s < key a))).find? (fun a => decide (key a = r)) = if r = key s then some s else l.find? fun a => decide (key a = r) := by
  rw [List.find?_append, List.find?_append, List.find?_filter, List.find?_filter]
  by_cases h : r = key s
  · subst h
    have h1 : (l.find? fun a => decide (decide (key a < key s) = true ∧ decide (key a = key s) = true)) = none := by
      rw [List.find?_eq_none]
      intro x _
      simp
      omega
    rw [if_pos rfl, h1]
    simp
  · rw [if_neg h]
    have hs : [s].find? (fun a => decide (key a = r)) = none := by
      rw [List.find?_eq_none]
      intro x hx
      rw [List.mem_singleton] at hx
      subst hx
      simp
      omega
    rw [hs]
    rcases Int.lt_or_gt_of_ne h with h1 | h1
    · have e1 : (l.find? fun a => decide (decide (key a < key s) = true ∧ decide (key a = r) = true)) = l.find? fun a => decide (key a = r) := by
        congr
        funext a
        by_cases h2 : key a = r
        · simp [h2, h1]
        · simp [h2]
      have e2 : (l.find? fun a => decide (decide (key s < key a) = true ∧ decide (key a = r) = true)) = none := by
        rw [List.find?_eq_none]
        intro x _
        simp
        omega
      rw [e1, e2]
      simp
    · have e1 : (l.find? fun a => decide (decide (key s < key a) = true ∧ decide (key a = r) = true)) = l.find? fun a => decide (key a = r) := by
        congr
        funext a
        by_cases h2 : key a = r
        · simp [h2, h1]
        · simp [h2]
      have e2 : (l.find? fun a => decide (decide (key a < key s) = true ∧ decide (key a = r) = true)) = none := by
        rw [List.find?_eq_none]
        intro x _
        simp
        omega
      rw [e1, e2]
      simp
theorem seatF_find : ∀ (l : List Seat) (r : Int), seatF l r = l.find? fun s => decide (s.router = r)
  | [], r => rfl
  | s :: l, r => by
    rw [seatF, List.find?_cons]
    by_cases h : s.router = r
    · simp [h]
    · simp [h, seatF_find l r]
theorem seatF_put (l : List Seat) (e : Ev) (r : Int) : seatF (putSeat l (seatOf e)) r = if r = e.router then some (seatOf e) else seatF l r := by
  rw [seatF_find, seatF_find]
  exact find_put Seat.router l (seatOf e) r
theorem routerF_after {n : Net} {e : Ev} {hz : Int} (hok : netOk n = true) (h : mayS n.seats e hz = 0) (h2 : (applyR (mineN n e) e).2 = 0) (r : Int) :
    routerF (netAfter n e hz).routers r = if r = e.router then some (applyR (mineN n e) e).1 else routerF n.routers r := by
  obtain ⟨g1, g2, g3, g4, g5⟩ := mayS_zero h
  obtain ⟨m1, m2⟩ := mineN_ok hok g2
  obtain ⟨a1, a2, a3⟩ := applyR_ok m1 g2 m2 h2
  rw [netAfter_routers hok h]
  simp only [cmpT_neg, cmpT_gt]
  have := find_put Router.id n.routers (applyR (mineN n e) e).1 r
  rw [a2] at this
  exact this
theorem happensF_get {n : Net} {e : Ev} {hz : Int} (hok : netOk n = true) (h : (happensF n e hz).2 = 0) :
    (∀ r, seatF (happensF n e hz).1.seats r = if r = e.router then some (seatOf e) else seatF n.seats r) ∧ ∀ r, routerF (happensF n e hz).1.routers r = if r = e.router then some (applyR (mineN n e) e).1 else routerF n.routers r := by
  obtain ⟨h1, h2, h3⟩ := happensF_zero h
  have hx : happensF n e hz = (netAfter n e hz, 0) := by
    unfold happensF
    rw [if_neg (by omega), if_neg (by omega), if_neg h3]
  rw [hx]
  refine ⟨fun r => ?_, routerF_after hok h1 h2⟩
  show seatF (nextS n.seats e hz).1 r = _
  rw [nextS_zero h1]
  exact seatF_put _ _ _
theorem putRt_sz (l : List Route) (x : Route) : (putRt l x).1.length ≤ l.length + 1 := by
  unfold putRt
  split
  · simp
  rename_i hc
  have hR : checkR l = 0 := by apply Classical.byContradiction; intro hn; exact hc (.inl hn)
  split
  · simp
  rw [ltR_wo, gtR_wo]
  cases hf : bsF (cmpQ x.pfx) l with
  | true => rw [← bs_set (strictR hR _) x hf]; simp
  | false =>
    rw [← bs_ins (strictR hR _) x hf]
    simp only [List.length_append, List.length_cons, List.length_take, List.length_drop]
    omega
theorem delRt_sz (l : List Route) (p : Pfx) : (delRt l p).1.length ≤ l.length := by
  unfold delRt
  split
  · simp
  · exact woR_len _ _
theorem putLk_sz (l : List Link) (x : Link) : (putLk l x).1.length ≤ l.length + 1 := by
  unfold putLk
  split
  · simp
  rename_i hc
  have hR : checkL l = 0 := by apply Classical.byContradiction; intro hn; exact hc (.inl hn)
  split
  · simp
  rw [ltL_cmp, gtL_cmp]
  cases hf : bsF (cmpL x.iface) l with
  | true => rw [← bs_set (strictL hR _) x hf]; simp
  | false =>
    rw [← bs_ins (strictL hR _) x hf]
    simp only [List.length_append, List.length_cons, List.length_take, List.length_drop]
    omega
theorem delLk_sz (l : List Link) (i : Int) : (delLk l i).1.length ≤ l.length := by
  unfold delLk
  split
  · simp
  rename_i hc
  have hR : checkL l = 0 := by apply Classical.byContradiction; intro hn; exact hc hn
  rw [ltL_cmp, gtL_cmp, ← bs_ne (strictL hR i)]
  exact List.length_filter_le _ _
theorem applyR_sz (r : Router) (e : Ev) : sz (applyR r e).1 ≤ sz r + if growsE e then 1 else 0 := by
  have b1 := putRt_sz r.routes ⟨e.pfx, e.act⟩
  have b2 := delRt_sz r.routes e.pfx
  have b3 := putLk_sz r.links ⟨e.iface, e.peer⟩
  have b4 := delLk_sz r.links e.iface
  have hg3 : e.kind = 3 → growsE e = true := fun h => by simp [growsE, h]
  have hg5 : e.kind = 5 → growsE e = true := fun h => by simp [growsE, h]
  unfold applyR
  split
  · simp [sz, router0]
  split
  · simp
  split
  · simp
  split
  · simp [sz]
  split
  · simp [sz]
  split
  · rename_i h
    rw [hg3 h]
    split
    · simp [sz]; omega
    · simp
  split
  · simp [sz]; omega
  split
  · rename_i h
    rw [hg5 h]
    split
    · simp [sz]; omega
    · simp
  · simp [sz]; omega
theorem happensF_sum {n : Net} {e : Ev} {hz : Int} (hok : netOk n = true) (h : (happensF n e hz).2 = 0) : sumR (happensF n e hz).1.routers ≤ sumR n.routers + if growsE e then 1 else 0 := by
  have hok2 := happensF_ok (e := e) (hz := hz) hok
  obtain ⟨h1, h2, h3⟩ := happensF_zero h
  have hx : happensF n e hz = (netAfter n e hz, 0) := by
    unfold happensF
    rw [if_neg (by omega), if_neg (by omega), if_neg h3]
  rw [hx] at hok2 ⊢
  have hm := (netOk_many hok2).1
  obtain ⟨c1, c2, c3⟩ := many_after hok h1 h2
  have hs := applyR_sz (mineN n e) e
  simp only at hm ⊢
  rw [c1] at hm
  omega
end Go.Am


set_option linter.unusedVariables false
set_option linter.unusedSimpArgs false
set_option pp.deepTerms false
set_option pp.deepTerms.threshold 40
namespace Go.Am
open Go.Proofs

/-- What is known of a net of the events up to a time, beside the net of all of them. -/
def Rel (t : Int) (N M : Net) : Prop := ∀ r, (seatF M.seats r = seatF N.seats r ∧ routerF M.routers r = routerF N.routers r) ∨ ∃ s, seatF N.seats r = some s ∧ t < s.time
def Sub (N M : Net) : Prop := ∀ r, seatF N.seats r = none → seatF M.seats r = none
theorem sorted_le : ∀ (b a : List Int), a.Pairwise (· < ·) → b.Pairwise (· < ·) → (∀ x ∈ a, x ∈ b) → a.length ≤ b.length
  | [], a, _, _, h => by
    cases a with
    | nil => exact Nat.le_refl _
    | cons x a => exact absurd (h x List.mem_cons_self) (by simp)
  | y :: b, [], _, _, _ => Nat.zero_le _
  | y :: b, x :: a, ha, hb, h => by
    have ha1 := List.pairwise_cons.1 ha
    have hb1 := List.pairwise_cons.1 hb
    by_cases hxy : x = y
    · subst hxy
      have := sorted_le b a ha1.2 hb1.2 fun z hz => by
        have h1 := ha1.1 z hz
        rcases List.mem_cons.1 (h z (List.mem_cons_of_mem _ hz)) with rfl | h2
        · omega
        · exact h2
      simp only [List.length_cons]
      omega
    · have hx : x ∈ b := (List.mem_cons.1 (h x List.mem_cons_self)).resolve_left hxy
      have hyx := hb1.1 x hx
      have := sorted_le b (x :: a) ha hb1.2 fun z hz => by
        rcases List.mem_cons.1 hz with rfl | hz'
        · exact hx
        · have h1 := ha1.1 z hz'
          rcases List.mem_cons.1 (h z hz) with rfl | h2
          · omega
          · exact h2
      simp only [List.length_cons] at *
      omega
theorem sub_len {N M : Net} (hN : netOk N = true) (hM : netOk M = true) (h : Sub N M) : M.seats.length ≤ N.seats.length := by
  have := sorted_le (N.seats.map Seat.router) (M.seats.map Seat.router) (by rw [List.pairwise_map]; exact checkS_sorted (netOk_checkS hM)) (by rw [List.pairwise_map]; exact checkS_sorted (netOk_checkS hN)) fun x hx => by
    obtain ⟨s, hs, rfl⟩ := List.mem_map.1 hx
    apply Classical.byContradiction
    intro hn
    have h1 : seatF N.seats s.router = none := by
      rw [seatF_none]
      rintro ⟨u, hu, hur⟩
      exact hn (List.mem_map.2 ⟨u, hu, hur⟩)
    have h2 := h _ h1
    rw [seatF_none] at h2
    exact h2 ⟨s, hs, rfl⟩
  simpa using this
theorem mayT_time {l : List Seat} {e : Ev} {hz : Int} (h : mayT l e hz = 0) : ((seatF l e.router).getD seat0).time ≤ e.time := by
  unfold mayT at h
  split at h
  · cases h
  split at h
  · cases h
  split at h
  · cases h
  omega
theorem mayT_same {l m : List Seat} {e : Ev} {hz : Int} (h : mayT l e hz = 0) (hs : seatF m e.router = seatF l e.router) (hl : seatF l e.router = none → ¬ m.length = 64) : mayT m e hz = 0 := by
  unfold mayT at h ⊢
  rw [hs]
  split at h
  · cases h
  rename_i c1
  split at h
  · cases h
  rename_i c2
  split at h
  · cases h
  rename_i c3
  split at h
  · cases h
  rename_i c4
  rw [if_neg c1, if_neg c2, if_neg c3, if_neg c4, if_neg]
  rintro ⟨h1, h2⟩
  exact hl h1 h2
/-- What happens at the one net happens at another one that knows as much of the router. -/
theorem happens_like {N M : Net} {e : Ev} {hz : Int} (hN : netOk N = true) (hM : netOk M = true) (h : (happensF N e hz).2 = 0) (hs : seatF M.seats e.router = seatF N.seats e.router) (hr : routerF M.routers e.router = routerF N.routers e.router)
    (hl : seatF N.seats e.router = none → ¬ M.seats.length = 64) (hsum : sumR M.routers + (if growsE e then 1 else 0) ≤ 1024) : (happensF M e hz).2 = 0 ∧ mineN M e = mineN N e := by
  obtain ⟨h1, h2, h3⟩ := happensF_zero h
  obtain ⟨g1, g2, g3, g4, g5⟩ := mayS_zero h1
  have hmine : mineN M e = mineN N e := by unfold mineN; rw [hr]
  have k1 : mayS M.seats e hz = 0 := by
    rw [mayS_T (netOk_checkS hM) g2 g3 g4]
    exact mayT_same g5 hs hl
  have k2 : (applyR (mineN M e) e).2 = 0 := by rw [hmine]; exact h2
  have k3 : ¬ 1024 < many (netAfter M e hz).routers 0 := by
    obtain ⟨c1, c2, c3⟩ := many_after hM k1 k2
    have hsz := applyR_sz (mineN M e) e
    rw [c1]
    omega
  refine ⟨?_, hmine⟩
  unfold happensF
  rw [if_neg (by omega), if_neg (by omega), if_neg k3]
theorem rel_step {N M : Net} {e : Ev} {hz t : Int} (hN : netOk N = true) (hM : netOk M = true) (h : (happensF N e hz).2 = 0) (hrel : Rel t N M) (hsub : Sub N M) (het : e.time ≤ t) (hsum : sumR M.routers + (if growsE e then 1 else 0) ≤ 1024) :
    (happensF M e hz).2 = 0 ∧ Rel t (happensF N e hz).1 (happensF M e hz).1 ∧ Sub (happensF N e hz).1 (happensF M e hz).1 := by
  obtain ⟨h1, h2, h3⟩ := happensF_zero h
  obtain ⟨g1, g2, g3, g4, g5⟩ := mayS_zero h1
  rcases hrel e.router with ⟨hs, hr⟩ | ⟨s, hs, hst⟩
  · have hlen := sub_len hN hM hsub
    have h64 := netOk_seats hN
    obtain ⟨k, hmine⟩ := happens_like hN hM h hs hr (fun hn => by have := mayT_len g5 hn; omega) hsum
    obtain ⟨n1, n2⟩ := happensF_get hN h
    obtain ⟨m1, m2⟩ := happensF_get hM k
    refine ⟨k, fun r => ?_, fun r hr0 => ?_⟩
    · rw [n1, n2, m1, m2, hmine]
      by_cases hre : r = e.router
      · simp only [if_pos hre]
        exact .inl (by simp)
      · simp only [if_neg hre]
        exact hrel r
    · rw [n1] at hr0
      rw [m1]
      by_cases hre : r = e.router
      · rw [if_pos hre] at hr0; cases hr0
      · rw [if_neg hre] at hr0 ⊢
        exact hsub r hr0
  · have := mayT_time g5
    rw [hs] at this
    simp only [Option.getD_some] at this
    omega
theorem rel_late {N M : Net} {e : Ev} {hz t : Int} (hN : netOk N = true) (h : (happensF N e hz).2 = 0) (hrel : Rel t N M) (hsub : Sub N M) (het : t < e.time) : Rel t (happensF N e hz).1 M ∧ Sub (happensF N e hz).1 M := by
  obtain ⟨n1, n2⟩ := happensF_get hN h
  refine ⟨fun r => ?_, fun r hr0 => ?_⟩
  · rw [n1, n2]
    by_cases hre : r = e.router
    · simp only [if_pos hre]
      exact .inr ⟨seatOf e, rfl, het⟩
    · simp only [if_neg hre]
      exact hrel r
  · rw [n1] at hr0
    by_cases hre : r = e.router
    · rw [if_pos hre] at hr0; cases hr0
    · rw [if_neg hre] at hr0
      exact hsub r hr0
theorem allGo_step {hz : Int} {e : Ev} {l : List Ev} {n : Net} {i : Int} (h : (allGo hz (e :: l) n i).2.2 = 0) : (happensF n e hz).2 = 0 ∧ allGo hz (e :: l) n i = allGo hz l (happensF n e hz).1 (i + 1) := by
  rw [allGo] at h
  split at h
  · rename_i h1
    exact ⟨h1, by rw [allGo, if_pos h1]⟩
  · rename_i h1
    exact absurd h h1
theorem filt_all {t hz : Int} : ∀ (l : List Ev) (N M : Net) (i j : Int), netOk N = true → netOk M = true → Rel t N M → Sub N M → sumR M.routers + addsE (upto t l) ≤ 1024 → (allGo hz l N i).2.2 = 0 →
    (allGo hz (upto t l) M j).2.2 = 0 ∧ Rel t (allGo hz l N i).1 (allGo hz (upto t l) M j).1 ∧ netOk (allGo hz (upto t l) M j).1 = true
  | [], N, M, i, j, hN, hM, hr, hs, _, _ => ⟨rfl, hr, hM⟩
  | e :: l, N, M, i, j, hN, hM, hr, hs, hsum, h => by
    obtain ⟨h1, h2⟩ := allGo_step h
    rw [h2] at h ⊢
    have hN' := happensF_ok (e := e) (hz := hz) hN
    by_cases het : e.time ≤ t
    · have hu : upto t (e :: l) = e :: upto t l := by unfold upto; rw [List.filter_cons, if_pos (by simpa using het)]
      have ha : addsE (upto t (e :: l)) = addsE (upto t l) + if growsE e then 1 else 0 := by
        rw [hu]
        unfold addsE growsE
        rw [List.countP_cons]
      rw [ha] at hsum
      obtain ⟨k1, k2, k3⟩ := rel_step hN hM h1 hr hs het (by omega)
      have hM' := happensF_ok (e := e) (hz := hz) hM
      have hsz := happensF_sum hM k1
      rw [hu, allGo, if_pos k1]
      exact filt_all l _ _ _ _ hN' hM' k2 k3 (by omega) h
    · have hu : upto t (e :: l) = upto t l := by unfold upto; rw [List.filter_cons, if_neg (by simpa using het)]
      rw [hu] at hsum ⊢
      obtain ⟨k2, k3⟩ := rel_late hN h1 hr hs (by omega)
      exact filt_all l _ _ _ _ hN' hM k2 k3 hsum h
theorem addsE_upto (t : Int) (l : List Ev) : addsE (upto t l) ≤ addsE l := (List.filter_sublist).countP_le
theorem okP_base {p : Past} (h : okP p = true) : netOk p.base = true := by
  unfold okP at h
  simp only [Bool.and_eq_true, decide_eq_true_eq] at h
  exact allN_ok h.1.2
theorem okP_all {p : Past} (h : okP p = true) : (allGo p.hz p.evs p.base 0).2.2 = 0 := by
  have hb := okP_base h
  unfold okP at h
  simp only [Bool.and_eq_true, decide_eq_true_eq] at h
  have := h.1.2
  unfold allN at this
  rw [if_neg (by simp [hb])] at this
  exact this
theorem okP_sum {p : Past} (h : okP p = true) : sumR p.base.routers + addsE p.evs ≤ 1024 := by
  have hb := okP_base h
  have hw := okP_weight h
  have hm := (netOk_many hb).1
  unfold weightF sizeN at hw
  rw [if_pos hb, hm] at hw
  omega
theorem Rel.refl (t : Int) (N : Net) : Rel t N N := fun r => .inl ⟨rfl, rfl⟩
/-- A right past has a net at each time. -/
theorem thenW_ok {p : Past} (h : okP p = true) (t : Int) : thenW p t = 0 := by
  have hb := okP_base h
  have hs := okP_sum h
  have ha := addsE_upto t p.evs
  unfold thenW allN
  rw [if_neg (by simp [hb])]
  exact (filt_all p.evs p.base p.base 0 0 hb hb (Rel.refl _ _) (fun r h => h) (by omega) (okP_all h)).1
end Go.Am


set_option linter.unusedVariables false
set_option linter.unusedSimpArgs false
set_option pp.deepTerms false
set_option pp.deepTerms.threshold 40
namespace Go.Am
open Go.Proofs

end Go.Am


set_option linter.unusedVariables false
set_option linter.unusedSimpArgs false
set_option pp.deepTerms false
set_option pp.deepTerms.threshold 40
namespace Go.Am
open Go.Proofs

end Go.Am


set_option linter.unusedVariables false
set_option linter.unusedSimpArgs false
set_option pp.deepTerms false
set_option pp.deepTerms.threshold 40
namespace Go.Am
open Go.Proofs

end Go.Am


set_option linter.unusedVariables false
set_option linter.unusedSimpArgs false
set_option pp.deepTerms false
set_option pp.deepTerms.threshold 40
namespace Go.Am
open Go.Proofs

def ofN (v : Nat) : Addr4 := ⟨((v / 18446744073709551616 : Nat) : Int), ((v % 18446744073709551616 : Nat) : Int)⟩
theorem ofN_num {a : Addr4} (h : a.wf) : ofN a.num = a := by
  obtain ⟨h1, h2, h3, h4⟩ := h
  cases a with | mk hi lo =>
  simp only [ofN, Addr4.num, Addr4.mk.injEq] at *
  constructor <;> omega
theorem ofN_wf {v : Nat} (h : v < 340282366920938463463374607431768211456) : (ofN v).wf := by
  unfold ofN Addr4.wf
  simp only
  omega
theorem num_ofN {v : Nat} (h : v < 340282366920938463463374607431768211456) : (ofN v).num = v := by
  unfold ofN Addr4.num
  simp only
  omega
def maxN (six : Bool) : Nat := 2 ^ wideN six - 1
def nextF (six : Bool) (a : Addr4) : Addr4 × Int := if rightA six a = false then (⟨0, 0⟩, 2) else if a.num = maxN six then (⟨0, 0⟩, 3) else (ofN (a.num + 1), 0)
def prevF (six : Bool) (a : Addr4) : Addr4 × Int := if rightA six a = false then (⟨0, 0⟩, 2) else if a.num = 0 then (⟨0, 0⟩, 3) else (ofN (a.num - 1), 0)
def lastN (p : Pfx) : Nat := p.addr.num + (2 ^ (wideN p.six - p.len.toNat) - 1)
def lastF (p : Pfx) : Addr4 × Int := if checkP p = 0 then (ofN (lastN p), 0) else (⟨0, 0⟩, 2)
theorem maxN_lt (six : Bool) : maxN six < 340282366920938463463374607431768211456 := by cases six <;> decide
theorem maxN_all {six : Bool} {a : Addr4} (hw : a.wf) (hr : rightA six a = true) : a.num ≤ maxN six := by
  have := Addr4.num_lt hw hr
  unfold maxN
  omega
end Go.Am


set_option linter.unusedVariables false
set_option linter.unusedSimpArgs false
set_option pp.deepTerms false
set_option pp.deepTerms.threshold 40
namespace Go.Am
open Go.Proofs

end Go.Am


set_option linter.unusedVariables false
set_option linter.unusedSimpArgs false
set_option pp.deepTerms false
set_option pp.deepTerms.threshold 40
namespace Go.Am
open Go.Proofs

def zeroA : Addr4 := ⟨0, 0⟩
theorem checkP_two {p : Pfx} (h : ¬ checkP p = 0) : checkP p = 2 := by
  unfold checkP at h ⊢
  split
  · rfl
  · rename_i h1
    rw [if_neg h1] at h
    split
    · rfl
    · rename_i h2
      rw [if_neg h2] at h
      exact absurd rfl h
end Go.Am


set_option linter.unusedVariables false
set_option linter.unusedSimpArgs false
set_option pp.deepTerms false
set_option pp.deepTerms.threshold 40
namespace Go.Am
open Go.Proofs

@[simp] def Addr4.iv (a : Addr4) : List IV := [.sc (.int .u64 a.hi), .sc (.int .u64 a.lo)]
def SA (l : List Addr4) : Prop := l.Pairwise fun a b => a.num < b.num
def wfL (l : List Addr4) : Prop := ∀ a ∈ l, a.wf
theorem cmpA_lt {a b : Addr4} (ha : a.wf) (hb : b.wf) : cmpA a b < 0 ↔ a.num < b.num := by
  obtain ⟨a1, a2, a3, a4⟩ := ha
  obtain ⟨b1, b2, b3, b4⟩ := hb
  simp only [cmpA, orInt, cmpI, Addr4.num]
  repeat' split
  all_goals omega
theorem cmpA_gt {a b : Addr4} (ha : a.wf) (hb : b.wf) : 0 < cmpA a b ↔ b.num < a.num := by
  obtain ⟨a1, a2, a3, a4⟩ := ha
  obtain ⟨b1, b2, b3, b4⟩ := hb
  simp only [cmpA, orInt, cmpI, Addr4.num]
  repeat' split
  all_goals omega
theorem cmpA_eq {a b : Addr4} (ha : a.wf) (hb : b.wf) : cmpA a b = 0 ↔ a = b := by
  have h1 := cmpA_lt ha hb
  have h2 := cmpA_gt ha hb
  constructor
  · intro h
    exact Addr4.num_inj ha hb (by omega)
  · rintro rfl
    omega
theorem sa_eq : ∀ {a b : List Addr4}, SA a → SA b → (∀ x, x ∈ a ↔ x ∈ b) → a = b
  | [], [], _, _, _ => rfl
  | [], y :: b, _, _, h => by have := (h y).2 List.mem_cons_self; cases this
  | x :: a, [], _, _, h => by have := (h x).1 List.mem_cons_self; cases this
  | x :: a, y :: b, ha, hb, h => by
    have ha1 := List.pairwise_cons.1 ha
    have hb1 := List.pairwise_cons.1 hb
    have hxy : x = y := by
      rcases List.mem_cons.1 ((h x).1 List.mem_cons_self) with e | h1
      · exact e
      · rcases List.mem_cons.1 ((h y).2 List.mem_cons_self) with e | h2
        · exact e.symm
        · have := ha1.1 y h2
          have := hb1.1 x h1
          omega
    subst hxy
    congr 1
    refine sa_eq ha1.2 hb1.2 fun z => ?_
    constructor
    · intro hz
      rcases List.mem_cons.1 ((h z).1 (List.mem_cons_of_mem _ hz)) with rfl | h1
      · have := ha1.1 z hz; omega
      · exact h1
    · intro hz
      rcases List.mem_cons.1 ((h z).2 (List.mem_cons_of_mem _ hz)) with rfl | h1
      · have := hb1.1 z hz; omega
      · exact h1
def insA (a : Addr4) : List Addr4 → List Addr4
  | [] => [a]
  | b :: l => if a.num < b.num then a :: b :: l else if a.num = b.num then b :: l else b :: insA a l
def sortA (l : List Addr4) : List Addr4 := l.foldr insA []
theorem insA_mem {a : Addr4} (ha : a.wf) : ∀ {l : List Addr4}, wfL l → ∀ x, x ∈ insA a l ↔ x = a ∨ x ∈ l
  | [], _, x => by simp [insA]
  | b :: l, h, x => by
    rw [insA]
    split
    · simp
    · split
      · rename_i h2
        have := Addr4.num_inj ha (h b List.mem_cons_self) h2
        subst this
        simp
      · rw [List.mem_cons, insA_mem ha (fun y hy => h y (List.mem_cons_of_mem _ hy)), List.mem_cons]
        constructor
        · rintro (h1 | h1 | h1)
          · exact .inr (.inl h1)
          · exact .inl h1
          · exact .inr (.inr h1)
        · rintro (h1 | h1 | h1)
          · exact .inr (.inl h1)
          · exact .inl h1
          · exact .inr (.inr h1)
theorem insA_wf {a : Addr4} (ha : a.wf) {l : List Addr4} (h : wfL l) : wfL (insA a l) := fun x hx => by
  rcases (insA_mem ha h x).1 hx with rfl | hx
  · exact ha
  · exact h x hx
theorem insA_sa {a : Addr4} (ha : a.wf) : ∀ {l : List Addr4}, wfL l → SA l → SA (insA a l)
  | [], _, _ => by simp [insA, SA]
  | b :: l, hw, h => by
    have h1 := List.pairwise_cons.1 h
    rw [insA]
    split
    · rename_i hab
      refine List.pairwise_cons.2 ⟨fun y hy => ?_, h⟩
      rcases List.mem_cons.1 hy with rfl | hy
      · exact hab
      · have := h1.1 y hy; omega
    · split
      · exact h
      · have hwl : wfL l := fun y hy => hw y (List.mem_cons_of_mem _ hy)
        refine List.pairwise_cons.2 ⟨fun y hy => ?_, insA_sa ha hwl h1.2⟩
        rcases (insA_mem ha hwl y).1 hy with rfl | hy
        · omega
        · exact h1.1 y hy
theorem sortA_all : ∀ {l : List Addr4}, wfL l → wfL (sortA l) ∧ SA (sortA l) ∧ ∀ x, x ∈ sortA l ↔ x ∈ l
  | [], _ => ⟨fun x hx => (by cases hx), List.Pairwise.nil, fun x => Iff.rfl⟩
  | a :: l, h => by
    have ha := h a List.mem_cons_self
    obtain ⟨h1, h2, h3⟩ := sortA_all (l := l) fun y hy => h y (List.mem_cons_of_mem _ hy)
    have e : sortA (a :: l) = insA a (sortA l) := rfl
    rw [e]
    refine ⟨insA_wf ha h1, insA_sa ha h1 h2, fun x => ?_⟩
    rw [insA_mem ha h1, h3, List.mem_cons]
theorem insA_len (a : Addr4) : ∀ l : List Addr4, (insA a l).length ≤ l.length + 1
  | [] => by simp [insA]
  | b :: l => by
    have := insA_len a l
    rw [insA]
    repeat' split
    all_goals (simp only [List.length_cons] at *; omega)
theorem sortA_len : ∀ l : List Addr4, (sortA l).length ≤ l.length
  | [] => Nat.le_refl _
  | a :: l => by
    have h1 := sortA_len l
    have h2 := insA_len a (sortA l)
    have e : sortA (a :: l) = insA a (sortA l) := rfl
    rw [e, List.length_cons]
    omega
theorem sortA_same {l m : List Addr4} (hl : wfL l) (hm : wfL m) (h : ∀ x, x ∈ l ↔ x ∈ m) : sortA l = sortA m := by
  obtain ⟨_, b1, c1⟩ := sortA_all hl
  obtain ⟨_, b2, c2⟩ := sortA_all hm
  exact sa_eq b1 b2 fun x => by rw [c1, c2, h]
/-- Sorted with doubles. -/
def msA (l : List Addr4) : List Addr4 := l.mergeSort fun x y => decide (x.num ≤ y.num)
theorem msA_perm (l : List Addr4) : (msA l).Perm l := List.mergeSort_perm l _
theorem msA_sorted (l : List Addr4) : (msA l).Pairwise fun x y => x.num ≤ y.num := by
  have := List.pairwise_mergeSort (le := fun x y : Addr4 => decide (x.num ≤ y.num)) (fun a b c h1 h2 => by simp at *; omega) (fun a b => by simp; omega) l
  simpa [msA] using this
theorem perm_num : ∀ {a b : List Addr4}, a.Perm b → wfL a → (a.Pairwise fun x y => x.num ≤ y.num) → (b.Pairwise fun x y => x.num ≤ y.num) → a = b
  | [], b, h, _, _, _ => (List.nil_perm.1 h).symm
  | x :: a, [], h, _, _, _ => by have := h.length_eq; cases this
  | x :: a, y :: b, h, hw, ha, hb => by
    have hxy : x = y := by
      have h1 := h.mem_iff.1 (show x ∈ x :: a from List.mem_cons_self)
      have h2 := h.mem_iff.2 (show y ∈ y :: b from List.mem_cons_self)
      rcases List.mem_cons.1 h1 with e | h1
      · exact e
      · rcases List.mem_cons.1 h2 with e | h2
        · exact e.symm
        · have g1 := List.rel_of_pairwise_cons ha h2
          have g2 := List.rel_of_pairwise_cons hb h1
          exact Addr4.num_inj (hw x List.mem_cons_self) (hw y (List.mem_cons_of_mem _ h2)) (by omega)
    subst hxy
    rw [perm_num ((List.perm_cons x).1 h) (fun z hz => hw z (List.mem_cons_of_mem _ hz)) (List.Pairwise.of_cons ha) (List.Pairwise.of_cons hb)]
def dedupA : List Addr4 → List Addr4
  | [] => []
  | [x] => [x]
  | x :: y :: l => if x.hi = y.hi ∧ x.lo = y.lo then dedupA (y :: l) else x :: dedupA (y :: l)
theorem Addr4.eq_iff (x y : Addr4) : x = y ↔ x.hi = y.hi ∧ x.lo = y.lo := by
  cases x; cases y; simp
instance : DecidableEq Addr4 := fun x y => decidable_of_iff _ (Addr4.eq_iff x y).symm
theorem dedupA_mem : ∀ (l : List Addr4) (x : Addr4), x ∈ dedupA l ↔ x ∈ l
  | [], x => Iff.rfl
  | [a], x => Iff.rfl
  | a :: b :: l, x => by
    rw [dedupA]
    split
    · rename_i h
      have := (Addr4.eq_iff a b).2 h
      subst this
      rw [dedupA_mem (a :: l)]
      simp
    · rw [List.mem_cons, dedupA_mem (b :: l), List.mem_cons (b := a)]
theorem dedupA_sa : ∀ {l : List Addr4}, wfL l → (l.Pairwise fun x y => x.num ≤ y.num) → SA (dedupA l)
  | [], _, _ => List.Pairwise.nil
  | [a], _, _ => by simp [dedupA, SA]
  | a :: b :: l, hw, h => by
    have h1 := List.pairwise_cons.1 h
    have hwl : wfL (b :: l) := fun y hy => hw y (List.mem_cons_of_mem _ hy)
    rw [dedupA]
    split
    · exact dedupA_sa hwl h1.2
    · rename_i hne
      refine List.pairwise_cons.2 ⟨fun y hy => ?_, dedupA_sa hwl h1.2⟩
      rw [dedupA_mem] at hy
      have h2 := h1.1 b List.mem_cons_self
      have h4 : a.num ≠ b.num := fun e => hne ((Addr4.eq_iff a b).1 (Addr4.num_inj (hw a List.mem_cons_self) (hwl b List.mem_cons_self) e))
      rcases List.mem_cons.1 hy with rfl | hy
      · omega
      · have h3 := List.rel_of_pairwise_cons h1.2 hy
        omega
theorem dedupA_sort {l : List Addr4} (hw : wfL l) : dedupA (msA l) = sortA l := by
  have hwm : wfL (msA l) := fun x hx => hw x ((msA_perm l).mem_iff.1 hx)
  obtain ⟨_, b1, c1⟩ := sortA_all hw
  exact sa_eq (dedupA_sa hwm (msA_sorted l)) b1 fun x => by rw [dedupA_mem, (msA_perm l).mem_iff, c1]
end Go.Am


set_option linter.unusedVariables false
set_option linter.unusedSimpArgs false
set_option pp.deepTerms false
set_option pp.deepTerms.threshold 40
namespace Go.Proofs
def Tryz.sortAddr_ren : Go.Shelf.Ren := ⟨fun | 6 => 111 | 15 => 142 | 14 => 147 | 28 => 186 | 29 => 187 | 20 => 188 | 21 => 189 | 22 => 190 | 23 => 191 | 24 => 192 | 25 => 193 | 26 => 194 | 27 => 195 | 46 => 225 | 47 => 221 | 48 => 222 | 49 => 226 | 50 => 227 | 57 => 249 | n => n, fun | 22 => 67 | 24 => 32 | 25 => 123 | 3 => 3 | 39 => 155 | 0 => 0 | 53 => 239 | 55 => 30 | 4 => 4 | 46 => 232 | 45 => 231 | 50 => 128 | 5 => 5 | 9 => 9 | 66 => 277 | 70 => 281 | 76 => 297 | 77 => 298 | n => n, fun | n => n⟩
theorem Tryz.sortAddr : SlLaysF0.n6 Tryz.prog Tryz.sortAddr_ren := {
  mixed := by kernel_rfl,
  f6 := ⟨Tryz.f111.name, by decide, Tryz.func111.trans (congrArg some (by kernel_rfl))⟩,
  f14 := ⟨Tryz.f147.name, by decide, Tryz.func147.trans (congrArg some (by kernel_rfl))⟩,
  f15 := Tryz.func142.trans (congrArg some (by kernel_rfl)),
  f20 := ⟨Tryz.f188.name, by decide, Tryz.func188.trans (congrArg some (by kernel_rfl))⟩,
  f21 := ⟨Tryz.f189.name, by decide, Tryz.func189.trans (congrArg some (by kernel_rfl))⟩,
  f22 := ⟨Tryz.f190.name, by decide, Tryz.func190.trans (congrArg some (by kernel_rfl))⟩,
  f23 := ⟨Tryz.f191.name, by decide, Tryz.func191.trans (congrArg some (by kernel_rfl))⟩,
  f24 := ⟨Tryz.f192.name, by decide, Tryz.func192.trans (congrArg some (by kernel_rfl))⟩,
  f25 := ⟨Tryz.f193.name, by decide, Tryz.func193.trans (congrArg some (by kernel_rfl))⟩,
  f26 := ⟨Tryz.f194.name, by decide, Tryz.func194.trans (congrArg some (by kernel_rfl))⟩,
  f27 := ⟨Tryz.f195.name, by decide, Tryz.func195.trans (congrArg some (by kernel_rfl))⟩,
  f28 := Tryz.func186.trans (congrArg some (by kernel_rfl)),
  f29 := Tryz.func187.trans (congrArg some (by kernel_rfl)),
  f46 := ⟨Tryz.f225.name, by decide, Tryz.func225.trans (congrArg some (by kernel_rfl))⟩,
  f47 := Tryz.func221.trans (congrArg some (by kernel_rfl)),
  f48 := Tryz.func222.trans (congrArg some (by kernel_rfl)),
  f49 := ⟨Tryz.f226.name, by decide, Tryz.func226.trans (congrArg some (by kernel_rfl))⟩,
  f50 := ⟨Tryz.f227.name, by decide, Tryz.func227.trans (congrArg some (by kernel_rfl))⟩,
  f57 := ⟨Tryz.f249.name, by decide, Tryz.func249.trans (congrArg some (by kernel_rfl))⟩,
  t0 := Tryz.underlying0,
  a0 := Tryz.isAgg0,
  z0 := Tryz.sizeOf0,
  v0 := Tryz.zeroValue0,
  t3 := Tryz.underlying3,
  a3 := Tryz.isAgg3,
  z3 := Tryz.sizeOf3,
  v3 := Tryz.zeroValue3,
  t4 := Tryz.underlying4,
  a4 := Tryz.isAgg4,
  z4 := Tryz.sizeOf4,
  v4 := Tryz.zeroValue4,
  t5 := Tryz.underlying5,
  a5 := Tryz.isAgg5,
  z5 := Tryz.sizeOf5,
  v5 := Tryz.zeroValue5,
  t9 := Tryz.underlying9,
  a9 := Tryz.isAgg9,
  z9 := Tryz.sizeOf9,
  v9 := Tryz.zeroValue9,
  t22 := Tryz.underlying67,
  a22 := Tryz.isAgg67,
  z22 := Tryz.sizeOf67,
  v22 := Tryz.zeroValue67,
  t25 := Tryz.underlying123,
  a25 := Tryz.isAgg123,
  z25 := Tryz.sizeOf123,
  v25 := Tryz.zeroValue123,
  t39 := Tryz.underlying155,
  a39 := Tryz.isAgg155,
  z39 := Tryz.sizeOf155,
  v39 := Tryz.zeroValue155,
  t45 := Tryz.underlying231,
  a45 := Tryz.isAgg231,
  z45 := Tryz.sizeOf231,
  v45 := Tryz.zeroValue231,
  t46 := Tryz.underlying232,
  a46 := Tryz.isAgg232,
  z46 := Tryz.sizeOf232,
  v46 := Tryz.zeroValue232,
  t50 := Tryz.underlying128,
  a50 := Tryz.isAgg128,
  z50 := Tryz.sizeOf128,
  v50 := Tryz.zeroValue128,
  t53 := Tryz.underlying239,
  a53 := Tryz.isAgg239,
  z53 := Tryz.sizeOf239,
  v53 := Tryz.zeroValue239,
  t55 := Tryz.underlying30,
  a55 := Tryz.isAgg30,
  z55 := Tryz.sizeOf30,
  v55 := Tryz.zeroValue30,
  t66 := Tryz.underlying277,
  a66 := Tryz.isAgg277,
  z66 := Tryz.sizeOf277,
  v66 := Tryz.zeroValue277,
  t70 := Tryz.underlying281,
  a70 := Tryz.isAgg281,
  z70 := Tryz.sizeOf281,
  v70 := Tryz.zeroValue281,
  t76 := Tryz.underlying297,
  a76 := Tryz.isAgg297,
  z76 := Tryz.sizeOf297,
  v76 := Tryz.zeroValue297,
  t77 := Tryz.underlying298,
  a77 := Tryz.isAgg298,
  z77 := Tryz.sizeOf298,
  v77 := Tryz.zeroValue298 }
end Go.Proofs
namespace Go.Am
open Go.Proofs

theorem dedupA_snoc : ∀ (l : List Addr4) (x y : Addr4), dedupA (l ++ [x, y]) = if x.hi = y.hi ∧ x.lo = y.lo then dedupA (l ++ [x]) else dedupA (l ++ [x]) ++ [y]
  | [], x, y => by
    simp only [List.nil_append, dedupA]
    split
    · rename_i h
      rw [(Addr4.eq_iff x y).2 h]
    · rfl
  | [a], x, y => by
    have := dedupA_snoc [] x y
    simp only [List.nil_append, List.cons_append, dedupA] at this ⊢
    rw [this]
    by_cases h1 : x.hi = y.hi ∧ x.lo = y.lo <;> by_cases h2 : a.hi = x.hi ∧ a.lo = x.lo <;> simp [h1, h2]
  | a :: b :: l, x, y => by
    have := dedupA_snoc (b :: l) x y
    simp only [List.cons_append, dedupA] at this ⊢
    rw [this]
    by_cases h1 : x.hi = y.hi ∧ x.lo = y.lo <;> by_cases h2 : a.hi = b.hi ∧ a.lo = b.lo <;> simp [h1, h2]
theorem dedupA_take {l : List Addr4} {j : Nat} (h : j + 1 < l.length) : dedupA (l.take (j + 2)) = if l[j + 1] = l[j] then dedupA (l.take (j + 1)) else dedupA (l.take (j + 1)) ++ [l[j + 1]] := by
  have a1 : l.take (j + 2) = l.take (j + 1) ++ [l[j + 1]] := by rw [show j + 2 = (j + 1) + 1 from rfl, List.take_add_one, List.getElem?_eq_getElem h]; rfl
  have a2 : l.take (j + 1) = l.take j ++ [l[j]] := by rw [List.take_add_one, List.getElem?_eq_getElem (by omega)]; rfl
  have e1 : l.take (j + 2) = l.take j ++ [l[j], l[j + 1]] := by rw [a1, a2, List.append_assoc]; rfl
  rw [e1, a2, dedupA_snoc]
  by_cases hh : l[j + 1] = l[j]
  · rw [if_pos ((Addr4.eq_iff _ _).1 hh.symm), if_pos hh]
  · rw [if_neg (fun x => hh ((Addr4.eq_iff _ _).2 x).symm), if_neg hh]
theorem dedupA_small {l : List Addr4} (h : l.length < 2) : dedupA l = l := by
  match l, h with
  | [], _ => rfl
  | [x], _ => rfl
structure CmpdA (xs C : List Addr4) (k j : Nat) : Prop where
  len : C.length = xs.length
  k1 : 1 ≤ k
  kj : k + 1 ≤ j
  jl : j ≤ xs.length
  pre : C.take k = dedupA (xs.take j)
  suf : ∀ i, j ≤ i + 1 → C[i]? = xs[i]?
theorem CmpdA.get {xs C : List Addr4} {k j i : Nat} (h : CmpdA xs C k j) (hi : j ≤ i + 1) (hx : i < xs.length) (hc : i < C.length) : C[i] = xs[i] := by
  have := h.suf i hi
  rw [List.getElem?_eq_getElem hx, List.getElem?_eq_getElem hc] at this
  exact Option.some.inj this
theorem CmpdA.skip {xs C : List Addr4} {k j : Nat} (h : CmpdA xs C k (j + 1)) (hj : j + 1 < xs.length) (he : xs[j + 1] = xs[j]) : CmpdA xs C k (j + 2) := by
  obtain ⟨a1, a2, a3, a4, a5, a6⟩ := h
  refine ⟨a1, a2, by omega, by omega, ?_, fun i hi => a6 i (by omega)⟩
  rw [dedupA_take hj, if_pos he, a5]
theorem CmpdA.put {xs C : List Addr4} {k j : Nat} (h : CmpdA xs C k (j + 1)) (hj : j + 1 < xs.length) (he : ¬ xs[j + 1] = xs[j]) : CmpdA xs (C.set k xs[j + 1]) (k + 1) (j + 2) := by
  obtain ⟨a1, a2, a3, a4, a5, a6⟩ := h
  refine ⟨by simpa using a1, by omega, by omega, by omega, ?_, fun i hi => ?_⟩
  · rw [dedupA_take hj, if_neg he, ← a5, List.take_add_one, List.getElem?_set_self (by omega), List.take_set_of_le (Nat.le_refl _)]
    rfl
  · rw [List.getElem?_set_ne (by omega)]
    exact a6 i (by omega)
set_option maxRecDepth 8000 in
set_option maxHeartbeats 2000000 in
theorem compactA_spec (l : List Addr4) (hl : l.length ≤ 1000000000) :
    FSpec Tryz.prog 112 [.row 0] [.row 32 2 (l.map Addr4.iv)] (.im (.sl 2 ((dedupA l).map Addr4.iv))) [.gone] := by
  refine FSpec.of_o (q := [(6, .n 9), (11, .n 9)]) Tryz.func112 (by kernel_rfl) rfl Tryz.ntmps112 Tryz.results112 hP (by kernel_rfl) (by simp) (by first | rfl | simp) ?_
  simp -implicitDefEqProofs
  refine ⟨fun h => ?_, fun h2 => ?_⟩
  · refine EndO.ret [0] [0] (.row 0) (by simp) ?_
    simp -implicitDefEqProofs [dedupA_small (show l.length < 2 by omega)]
  refine LoopK.os (fun k : Nat => [(0, .row 0), (3, .int .i64 k)])
    (fun _ => [.row 32 2 (l.map Addr4.iv)])
    (fun k => 1 ≤ k ∧ k ≤ l.length ∧ dedupA (l.take k) = l.take k) (fun k => l.length - k) 1 [0] ⟨Nat.le_refl _, by omega, dedupA_small (by simp; omega)⟩ (by simp) ?_
  rintro k ⟨hk1, hk, hR⟩
  by_cases hlt : k < l.length
  · obtain ⟨j, hj⟩ : ∃ j, k = j + 1 := ⟨k - 1, by omega⟩
    have e1 : IntKind.i64.wrap ((k : Int) - 1) = (j : Nat) := by rw [wrap64 (by omega) (by omega)]; omega
    have e2 : IntKind.i64.wrap ((k : Int) + 1) = (k + 1 : Nat) := wrap64 (by omega) (by omega)
    have hjl : j < l.length := by omega
    have hd : dedupA (l.take (k + 1)) = if l[k] = l[j] then dedupA (l.take k) else dedupA (l.take k) ++ [l[k]] := by
      subst hj; exact dedupA_take hlt
    have heqv : l[k] = l[j] ↔ l[k].hi = l[j].hi ∧ l[k].lo = l[j].lo := Addr4.eq_iff _ _
    simp -implicitDefEqProofs [hlt, hjl, e1, e2]
    refine ⟨fun g1 g2 => ⟨hk, ?_⟩, fun hne => ?_⟩
    · rw [if_pos (heqv.2 ⟨g1, g2⟩)] at hd
      have hd' := hd
      clear e1 e2 hd
      refine LoopK.os (fun g : Nat × Nat × List Addr4 => [(0, .row 0), (3, .int .i64 g.1), (4, .sub 0 2 k (l.length - k)), (5, .int .i64 g.2.1)])
        (fun g => [.row 32 2 (g.2.2.map Addr4.iv)])
        (fun g => CmpdA l g.2.2 g.1 (k + g.2.1) ∧ 1 ≤ g.2.1) (fun g => l.length - (k + g.2.1)) (k, 1, l) [0] ⟨⟨rfl, hk1, Nat.le_refl _, hlt, by rw [hd', hR], fun i _ => rfl⟩, Nat.le_refl _⟩ (by simp) ?_
      rintro ⟨k', k2, C⟩ ⟨hC, hk2⟩
      simp only at hC hk2
      have c0 := hC.len
      have c1 := hC.k1
      have c2 := hC.kj
      have c3 := hC.jl
      by_cases hl2 : k2 < l.length - k
      · obtain ⟨i2, hi2⟩ : ∃ i2, k2 = i2 + 1 := ⟨k2 - 1, by omega⟩
        have e1 : IntKind.i64.wrap ((k2 : Int) - 1) = (i2 : Nat) := by rw [wrap64 (by omega) (by omega)]; omega
        have e2 : IntKind.i64.wrap ((k2 : Int) + 1) = (k2 + 1 : Nat) := wrap64 (by omega) (by omega)
        have e3 : IntKind.i64.wrap ((k' : Int) + 1) = (k' + 1 : Nat) := wrap64 (by omega) (by omega)
        have b1 : k + k2 < C.length := by omega
        have b2 : k + i2 < C.length := by omega
        have b3 : i2 < l.length - k := by omega
        have b4 : k' < C.length := by omega
        simp -implicitDefEqProofs [hl2, e1, e2, e3, b1, b2, b3, b4]
        have g1 := hC.get (i := k + k2) (by omega) (by omega) b1
        have g2 := hC.get (i := k + i2) (by omega) (by omega) b2
        have heq2 : C[k + k2] = C[k + i2] ↔ C[k + k2].hi = C[k + i2].hi ∧ C[k + k2].lo = C[k + i2].lo := Addr4.eq_iff _ _
        have hmod := mod_set Addr4.iv C C[k + k2] k' (fun x => IV.sc (.int .u64 C[k + k2].hi) :: IV.sc (.int .u64 C[k + k2].lo) :: List.drop 2 x) (fun x => rfl)
        subst hi2
        refine ⟨by omega, fun hne => ⟨by omega, ?_⟩, fun h1 h3 => ?_⟩
        · have hne : ¬ C[k + (i2 + 1)] = C[k + i2] := fun h => by have := heq2.1 h; rcases hne with h4 | h4 <;> simp_all
          refine Again.os (k' + 1, i2 + 1 + 1, C.set k' C[k + (i2 + 1)]) [0] ⟨?_, by show 1 ≤ i2 + 1 + 1; omega⟩ (by show l.length - (k + (i2 + 1 + 1)) < l.length - (k + (i2 + 1)); omega) ?_
          · rw [g1]
            exact CmpdA.put (j := k + i2) hC (by omega) (by rw [← g2]; exact fun h => hne (g1.trans h))
          · show EntO _ _ _ _ _ _ _
            simp -implicitDefEqProofs [e2, e3]
            rw [hmod, List.map_set]
            rfl
        · have he := heq2.2 ⟨h1, h3⟩
          refine Again.os (k', i2 + 1 + 1, C) [0] ⟨?_, by show 1 ≤ i2 + 1 + 1; omega⟩ (by show l.length - (k + (i2 + 1 + 1)) < l.length - (k + (i2 + 1)); omega) ?_
          · exact CmpdA.skip (j := k + i2) hC (by omega) (by rw [← g2, ← he]; exact g1.symm)
          · simp -implicitDefEqProofs [e2]
      · have hkl : k + k2 = l.length := by omega
        have hpre := hC.pre
        rw [hkl, List.take_length] at hpre
        simp -implicitDefEqProofs [hl2]
        refine ⟨by omega, by omega, .inr ⟨by omega, ?_⟩⟩
        refine EndO.ret [1] [0] (.row 1) (by simp) ?_
        have ht : List.take k' (List.take k' (C.map Addr4.iv) ++ (List.replicate (C.length - k') [IV.sc (.int .u64 0), IV.sc (.int .u64 0)] ++ List.drop (k' + (C.length - k')) (C.map Addr4.iv))) = (dedupA l).map Addr4.iv := by
          rw [List.take_append_of_le_length (by simp; omega), List.take_take, Nat.min_self, ← hpre, List.map_take]
        simp -implicitDefEqProofs [ht]
    · rw [if_neg (fun h => by obtain ⟨h1, h2⟩ := heqv.1 h; exact hne h1 h2), hR] at hd
      have ht : l.take k ++ [l[k]] = l.take (k + 1) := by rw [List.take_add_one, List.getElem?_eq_getElem hlt]; rfl
      refine Again.os (k + 1) [0] ⟨by omega, hlt, by rw [hd, ht]⟩ (by omega) ?_
      simp -implicitDefEqProofs [e2]
  · have : k = l.length := by omega
    subst this
    rw [List.take_length] at hR
    simp -implicitDefEqProofs
    refine EndO.ret [0] [0] (.row 0) (by simp) ?_
    simp -implicitDefEqProofs [hR]
def unA : List IV → Addr4
  | [.sc (.int _ h), .sc (.int _ l)] => ⟨h, l⟩
  | _ => ⟨0, 0⟩
theorem unA_iv (a : Addr4) : unA a.iv = a := rfl
set_option maxRecDepth 8000 in
theorem sortFA_spec (l : List Addr4) (hw : wfL l) (hne : l ≠ []) (hl : l.length ≤ 1000000000) :
    FSpec Tryz.prog 111 [.row 0, .fn 70 []] [.row 32 2 (l.map Addr4.iv)] (.tup []) [.row 32 2 ((msA l).map Addr4.iv)] := by
  have hmem : ∀ x, x ∈ l.map Addr4.iv → ∃ a, a ∈ l ∧ x = a.iv := fun x hx => by
    obtain ⟨a, h1, h2⟩ := List.mem_map.1 hx
    exact ⟨a, h1, h2.symm⟩
  have hun : ∀ zs : List Addr4, (zs.map Addr4.iv).map unA = zs := fun zs => by
    rw [List.map_map]
    conv => rhs; rw [← List.map_id zs]
    exact List.map_congr_left fun a _ => unA_iv a
  refine sortFuncK Tryz.sortAddr 32 2 (by decide) (fun w => by first | rfl | exact Tryz.isAgg32 w) (fun w => by first | rfl | exact Tryz.sizeOf32 w) _ _ (fun x y => cmpA (unA x) (unA y)) (fun x => (unA x).num) (enters_of Tryz.func70 (by kernel_rfl) rfl) (by simpa using hne) ?_ ?_ (by simp; omega) ?_
  · intro x y hx hy
    obtain ⟨a, _, rfl⟩ := hmem x hx
    obtain ⟨b, _, rfl⟩ := hmem y hy
    exact cmpA_spec a b
  · intro x y hx hy
    obtain ⟨a, ha, rfl⟩ := hmem x hx
    obtain ⟨b, hb, rfl⟩ := hmem y hy
    have := cmpA_lt (hw a ha) (hw b hb)
    simp only [unA_iv]
    omega
  · intro ys hp hs
    have hy : ys = (ys.map unA).map Addr4.iv := by
      rw [List.map_map]
      conv => lhs; rw [← List.map_id ys]
      refine List.map_congr_left fun y hy => ?_
      obtain ⟨a, _, rfl⟩ := hmem y (hp.mem_iff.1 hy)
      rfl
    have hpz : (ys.map unA).Perm l := by
      have := hp.map unA
      rw [hun] at this
      exact this
    rw [hy]
    congr 1
    refine perm_num (hpz.trans (msA_perm l).symm) (fun x hx => hw x (hpz.mem_iff.1 hx)) ?_ (msA_sorted l)
    rw [List.pairwise_map]
    exact hs.imp fun h => by omega
end Go.Am


set_option linter.unusedVariables false
set_option linter.unusedSimpArgs false
set_option pp.deepTerms false
set_option pp.deepTerms.threshold 40
namespace Go.Am
open Go.Proofs

end Go.Am


set_option linter.unusedVariables false
set_option linter.unusedSimpArgs false
set_option pp.deepTerms false
set_option pp.deepTerms.threshold 40
namespace Go.Am
open Go.Proofs

theorem below_all : ((List.range 129).all fun n => (below (n : Int)).hi == (ofN (2 ^ n - 1)).hi && (below (n : Int)).lo == (ofN (2 ^ n - 1)).lo) = true := by kernel_rfl
theorem below_ofN {n : Nat} (h : n ≤ 128) : below (n : Int) = ofN (2 ^ n - 1) := by
  have := List.all_eq_true.1 below_all n (List.mem_range.2 (by omega))
  simp only [Bool.and_eq_true, beq_iff_eq] at this
  exact (Addr4.eq_iff _ _).2 this
theorem or_mask {x k : Nat} (hk : k ≤ 64) (h1 : x % 2 ^ k = 0) (h2 : x < 18446744073709551616) : x ||| (2 ^ k - 1) = x + (2 ^ k - 1) ∧ x + (2 ^ k - 1) < 18446744073709551616 := by
  have hp := Nat.two_pow_pos k
  obtain ⟨q, rfl⟩ := Nat.dvd_of_mod_eq_zero h1
  constructor
  · exact (Nat.two_pow_add_eq_or_of_lt (by omega) q).symm
  · have h64 : (18446744073709551616 : Nat) = 2 ^ k * 2 ^ (64 - k) := by
      rw [← Nat.pow_add, show k + (64 - k) = 64 by omega]
    rw [h64] at h2 ⊢
    have h3 : q < 2 ^ (64 - k) := Nat.lt_of_mul_lt_mul_left h2
    have h4 : 2 ^ k * (q + 1) ≤ 2 ^ k * 2 ^ (64 - k) := Nat.mul_le_mul_left _ h3
    rw [Nat.mul_add, Nat.mul_one] at h4
    omega
theorem or_nat {x y : Int} (h0 : 0 ≤ x) (h1 : x < 18446744073709551616) (h2 : 0 ≤ y) (h3 : y < 18446744073709551616) : or64 x y = ((x.toNat ||| y.toNat : Nat) : Int) := by
  unfold or64 orI
  have e1 : (BitVec.ofInt 64 x).toNat = x.toNat := by rw [BitVec.toNat_ofInt]; simp; omega
  have e2 : (BitVec.ofInt 64 y).toNat = y.toNat := by rw [BitVec.toNat_ofInt]; simp; omega
  show IntKind.u64.wrap (((BitVec.ofInt 64 x ||| BitVec.ofInt 64 y).toNat : Nat) : Int) = _
  have hb := (BitVec.ofInt 64 x ||| BitVec.ofInt 64 y).isLt
  rw [wrapU (by omega) (by omega), BitVec.toNat_or, e1, e2]
theorem last_or {p : Pfx} (hw : p.addr.wf) (h : checkP p = 0) : or64 p.addr.hi (host p).hi = (ofN (lastN p)).hi ∧ or64 p.addr.lo (host p).lo = (ofN (lastN p)).lo := by
  obtain ⟨l0, l1, l2⟩ := checkP_len h
  have hh := checkP_host hw h
  have hW : wideN p.six ≤ 128 := by cases p.six <;> decide
  obtain ⟨n, hn⟩ : ∃ n, n = wideN p.six - p.len.toNat := ⟨_, rfl⟩
  have hhost : host p = ofN (2 ^ n - 1) := by
    unfold host
    rw [wide_N, show (wideN p.six : Int) - p.len = n by omega, below_ofN (by omega)]
  unfold lastN
  rw [← hn] at hh ⊢
  rw [hhost]
  obtain ⟨a1, a2, a3, a4⟩ := hw
  have hp := Nat.two_pow_pos n
  have hnum : p.addr.num = p.addr.hi.toNat * 18446744073709551616 + p.addr.lo.toNat := rfl
  have hle : 2 ^ n ≤ 2 ^ 128 := Nat.pow_le_pow_right (by omega) (by omega)
  have h128 : (2 : Nat) ^ 128 = 340282366920938463463374607431768211456 := by decide
  have h64 : (2 : Nat) ^ 64 = 18446744073709551616 := by decide
  unfold ofN
  simp only
  rw [or_nat a1 a2 (by omega) (by omega), or_nat a3 a4 (by omega) (by omega)]
  simp only [Int.toNat_natCast]
  rw [hnum] at hh ⊢
  have hH : p.addr.hi.toNat < 18446744073709551616 := by omega
  have hL : p.addr.lo.toNat < 18446744073709551616 := by omega
  generalize p.addr.hi.toNat = H at *
  generalize p.addr.lo.toNat = L at *
  by_cases c : n ≤ 64
  · have hle64 : 2 ^ n ≤ 2 ^ 64 := Nat.pow_le_pow_right (by omega) c
    have hd : (2 : Nat) ^ 64 = 2 ^ n * 2 ^ (64 - n) := by rw [← Nat.pow_add]; congr 1; omega
    have hLm : L % 2 ^ n = 0 := by
      rw [← h64, hd, show H * (2 ^ n * 2 ^ (64 - n)) = 2 ^ n * (H * 2 ^ (64 - n)) by rw [Nat.mul_left_comm], Nat.mul_add_mod] at hh
      exact hh
    obtain ⟨o1, o2⟩ := or_mask c hLm hL
    have e1 : (2 ^ n - 1) / 18446744073709551616 = 0 := by omega
    have e2 : (2 ^ n - 1) % 18446744073709551616 = 2 ^ n - 1 := by omega
    rw [e1, e2, o1, Nat.or_zero]
    constructor <;> congr 1 <;> omega
  · have hd : (2 : Nat) ^ n = 18446744073709551616 * 2 ^ (n - 64) := by rw [← h64, ← Nat.pow_add]; congr 1; omega
    have hp2 := Nat.two_pow_pos (n - 64)
    rw [hd, Nat.mod_mul] at hh
    have hL0 : L = 0 := by omega
    subst hL0
    have hHm : H % 2 ^ (n - 64) = 0 := by
      have : (H * 18446744073709551616 + 0) / 18446744073709551616 = H := by omega
      rw [this] at hh
      omega
    obtain ⟨o1, o2⟩ := or_mask (show n - 64 ≤ 64 by omega) hHm hH
    rw [hd]
    have e1 : (18446744073709551616 * 2 ^ (n - 64) - 1) / 18446744073709551616 = 2 ^ (n - 64) - 1 := by omega
    have e2 : (18446744073709551616 * 2 ^ (n - 64) - 1) % 18446744073709551616 = 18446744073709551615 := by omega
    rw [e1, e2, o1, Nat.zero_or]
    constructor <;> congr 1 <;> omega
theorem both_spec (a b : Addr4) : FSpec Tryz.prog 119 [a.av, b.av] [] (.agg [.int .u64 (or64 a.hi b.hi), .int .u64 (or64 a.lo b.lo)]) [] := by
  refine FSpec.of_flat (q := []) Tryz.func119 (by kernel_rfl) rfl Tryz.ntmps119 Tryz.results119 hP (by kernel_rfl) (by simp) (by first | rfl | simp) ?_
  simp -implicitDefEqProofs
theorem lastP_walk (p : Pfx) (Hh R : Addr4) (h1 : FSpec Tryz.prog 73 [p.av] [] (.int .i64 0) []) (h2 : FSpec Tryz.prog 108 [p.av] [] Hh.av []) (h3 : FSpec Tryz.prog 119 [p.addr.av, Hh.av] [] R.av []) :
    FSpec Tryz.prog 82 [p.av] [] (.tup [R.av, .int .i64 0]) [] := by
  refine FSpec.of_flat (q := [(4, .n 4)]) Tryz.func82 (by kernel_rfl) rfl Tryz.ntmps82 Tryz.results82 hP (by kernel_rfl) (by simp) (by first | rfl | simp) ?_
  simp -implicitDefEqProofs
  first | refine CallK.same (h1) rfl rfl ?_ | refine CallQ.same (h1) rfl rfl ?_ | refine CallQG.same _ (h1) rfl ?_ | refine CallG.same _ (h1) rfl ?_ | refine CallK.pv (h1) rfl rfl ?_
  simp -implicitDefEqProofs
  first | refine CallK.same (h2) rfl rfl ?_ | refine CallQ.same (h2) rfl rfl ?_ | refine CallQG.same _ (h2) rfl ?_ | refine CallG.same _ (h2) rfl ?_ | refine CallK.pv (h2) rfl rfl ?_
  simp -implicitDefEqProofs
  first | refine CallK.same (h3) rfl rfl ?_ | refine CallQ.same (h3) rfl rfl ?_ | refine CallQG.same _ (h3) rfl ?_ | refine CallG.same _ (h3) rfl ?_ | refine CallK.pv (h3) rfl rfl ?_
  simp -implicitDefEqProofs
theorem lastP_bad (p : Pfx) (h1 : FSpec Tryz.prog 73 [p.av] [] (.int .i64 2) []) : FSpec Tryz.prog 82 [p.av] [] (.tup [zeroA.av, .int .i64 2]) [] := by
  refine FSpec.of_flat (q := [(4, .n 4)]) Tryz.func82 (by kernel_rfl) rfl Tryz.ntmps82 Tryz.results82 hP (by kernel_rfl) (by simp) (by first | rfl | simp) ?_
  simp -implicitDefEqProofs
  first | refine CallK.same (h1) rfl rfl ?_ | refine CallQ.same (h1) rfl rfl ?_ | refine CallQG.same _ (h1) rfl ?_ | refine CallG.same _ (h1) rfl ?_ | refine CallK.pv (h1) rfl rfl ?_
  simp -implicitDefEqProofs [zeroA]
theorem last_spec (p : Pfx) (hw : p.addr.wf) : FSpec Tryz.prog 82 [p.av] [] (.tup [(lastF p).1.av, .int .i64 (lastF p).2]) [] := by
  have h1 := checkP_spec p
  unfold lastF
  by_cases hc : checkP p = 0
  · obtain ⟨l0, l1, l2⟩ := checkP_len hc
    rw [← wide_N] at l1
    have h3 := both_spec p.addr (host p)
    obtain ⟨o1, o2⟩ := last_or hw hc
    rw [o1, o2] at h3
    rw [if_pos hc]
    rw [hc] at h1
    exact lastP_walk p _ _ h1 (host_spec p l1 l0) h3
  · rw [if_neg hc]
    rw [checkP_two hc] at h1
    exact lastP_bad p h1
theorem add64_ext (x : Int) (h0 : 0 ≤ x) : ExtV Tryz.prog 146 [.int .u64 x, .int .u64 1, .int .u64 0] (.tuple #[.int .u64 ((x + 1) % 18446744073709551616), .int .u64 ((x + 1) / 18446744073709551616)]) := fun w => by
  have := run_add64 (P := Tryz.prog) x 1 0 h0 (by decide) (by decide) (by decide) w
  rw [Int.add_zero] at this
  rw [run_callFunc_extern (e := add64Entry) Tryz.func146 (by kernel_rfl) (by kernel_rfl) (by kernel_rfl) (by kernel_rfl)]
  show ((add64Entry #[.int .u64 x, .int .u64 1, .int .u64 0]).run Tryz.prog w).andThen _ = _
  rw [this]
  rfl
theorem sub64_ext (x : Nat) : ExtV Tryz.prog 148 [.int .u64 x, .int .u64 1, .int .u64 0] (.tuple #[.int .u64 (((x + 18446744073709551616 - 1) % 18446744073709551616 : Nat) : Int), .int .u64 ((if x < 1 then 1 else 0 : Nat) : Int)]) := fun w => by
  have := run_sub64 (P := Tryz.prog) x 1 0 (by decide) w
  rw [run_callFunc_extern (e := sub64Entry) Tryz.func148 (by kernel_rfl) (by kernel_rfl) (by kernel_rfl) (by kernel_rfl)]
  show ((sub64Entry #[.int .u64 x, .int .u64 (1 : Nat), .int .u64 (0 : Nat)]).run Tryz.prog w).andThen _ = _
  rw [this]
  rfl
end Go.Am


set_option linter.unusedVariables false
set_option linter.unusedSimpArgs false
set_option pp.deepTerms false
set_option pp.deepTerms.threshold 40
namespace Go.Am
open Go.Proofs

theorem vrep_tup2 (x y : Value) (m : Nm) (c : Go.Addr → Value → Prop) : VRep m c (.tup [.im (.sc x), .im (.sc y)]) (.tuple #[x, y]) := by
  refine .tup rfl fun j z u h1 h2 => ?_
  match j with
  | 0 => simp at h1 h2; subst h1 h2; exact .im .sc
  | 1 => simp at h1 h2; subst h1 h2; exact .im .sc
  | j + 2 => simp at h1
set_option maxRecDepth 8000 in
theorem nextP_walk (six : Bool) (a B : Addr4) (hw : a.wf) (hr : rightA six a = true) (hB : FSpec Tryz.prog 145 [.int .i64 (wide six)] [] B.av []) :
    FSpec Tryz.prog 110 [.bool six, a.av] [] (.tup [(if a = B then zeroA else ⟨IntKind.u64.wrap (a.hi + (a.lo + 1) / 18446744073709551616), (a.lo + 1) % 18446744073709551616⟩ : Addr4).av, .int .i64 (if a = B then 3 else 0)]) [] := by
  have h1 := rightA_spec six a
  rw [hr] at h1
  have h2 := wide_spec six
  refine FSpec.of_flat (q := [(3, .n 4)]) Tryz.func110 (by kernel_rfl) rfl Tryz.ntmps110 Tryz.results110 hP (by kernel_rfl) (by simp) (by first | rfl | simp) ?_
  simp -implicitDefEqProofs
  first | refine CallK.same (h1) rfl rfl ?_ | refine CallQ.same (h1) rfl rfl ?_ | refine CallQG.same _ (h1) rfl ?_ | refine CallG.same _ (h1) rfl ?_ | refine CallK.pv (h1) rfl rfl ?_
  simp -implicitDefEqProofs
  first | refine CallK.same (h2) rfl rfl ?_ | refine CallQ.same (h2) rfl rfl ?_ | refine CallQG.same _ (h2) rfl ?_ | refine CallG.same _ (h2) rfl ?_ | refine CallK.pv (h2) rfl rfl ?_
  simp -implicitDefEqProofs
  first | refine CallK.same (hB) rfl rfl ?_ | refine CallQ.same (hB) rfl rfl ?_ | refine CallQG.same _ (hB) rfl ?_ | refine CallG.same _ (hB) rfl ?_ | refine CallK.pv (hB) rfl rfl ?_
  simp -implicitDefEqProofs
  have he := Addr4.eq_iff a B
  refine ⟨fun h1 h2 => ?_, fun h => ?_⟩
  · have hab := he.2 ⟨h1, h2⟩
    simp [zeroA, hab]
  · have hne : ¬ a = B := fun e => h (he.1 e).1 (he.1 e).2
    refine CallX.ext (add64_ext a.lo hw.2.2.1) (vrep_tup2 _ _) rfl ?_
    simp -implicitDefEqProofs [hne]
theorem nextP_bad (six : Bool) (a : Addr4) (hr : rightA six a = false) : FSpec Tryz.prog 110 [.bool six, a.av] [] (.tup [zeroA.av, .int .i64 2]) [] := by
  have h1 := rightA_spec six a
  rw [hr] at h1
  refine FSpec.of_flat (q := [(3, .n 4)]) Tryz.func110 (by kernel_rfl) rfl Tryz.ntmps110 Tryz.results110 hP (by kernel_rfl) (by simp) (by first | rfl | simp) ?_
  simp -implicitDefEqProofs
  first | refine CallK.same (h1) rfl rfl ?_ | refine CallQ.same (h1) rfl rfl ?_ | refine CallQG.same _ (h1) rfl ?_ | refine CallG.same _ (h1) rfl ?_ | refine CallK.pv (h1) rfl rfl ?_
  simp -implicitDefEqProofs [zeroA]
theorem below_max (six : Bool) {a : Addr4} (hw : a.wf) : a = below (wide six) ↔ a.num = maxN six := by
  have hW : wideN six ≤ 128 := by cases six <;> decide
  rw [wide_N, below_ofN hW]
  have hlt := maxN_lt six
  constructor
  · intro h
    rw [h]
    exact num_ofN hlt
  · intro h
    rw [← ofN_num hw, h]
    rfl
theorem inc_ofN {a : Addr4} (hw : a.wf) (hlt : a.num + 1 < 340282366920938463463374607431768211456) : (⟨IntKind.u64.wrap (a.hi + (a.lo + 1) / 18446744073709551616), (a.lo + 1) % 18446744073709551616⟩ : Addr4) = ofN (a.num + 1) := by
  obtain ⟨h1, h2, h3, h4⟩ := hw
  unfold ofN
  unfold Addr4.num at hlt ⊢
  rw [wrapU (by omega) (by omega)]
  refine (Addr4.eq_iff _ _).2 ⟨?_, ?_⟩
  · show a.hi + (a.lo + 1) / 18446744073709551616 = _
    simp only
    omega
  · show (a.lo + 1) % 18446744073709551616 = _
    simp only
    omega
theorem next_spec (six : Bool) (a : Addr4) (hw : a.wf) : FSpec Tryz.prog 110 [.bool six, a.av] [] (.tup [(nextF six a).1.av, .int .i64 (nextF six a).2]) [] := by
  unfold nextF
  cases hr : rightA six a with
  | false => exact nextP_bad six a hr
  | true =>
    have h := nextP_walk six a _ hw hr (below_spec (wide six) (wide_le six).1)
    have hm := below_max six hw
    have hlt := maxN_lt six
    have hle := maxN_all hw hr
    rw [if_neg (by decide)]
    by_cases hn : a.num = maxN six
    · simp only [if_pos (hm.2 hn)] at h
      rw [if_pos hn]
      exact h
    · simp only [if_neg (fun e => hn (hm.1 e)), inc_ofN hw (show a.num + 1 < 340282366920938463463374607431768211456 by omega)] at h
      rw [if_neg hn]
      exact h
set_option maxRecDepth 8000 in
theorem prevP_walk (six : Bool) (a : Addr4) (hw : a.wf) (hr : rightA six a = true) :
    FSpec Tryz.prog 116 [.bool six, a.av] [] (.tup [(if a = zeroA then zeroA else ⟨IntKind.u64.wrap (a.hi - (if a.lo.toNat < 1 then 1 else 0 : Nat)), ((a.lo.toNat + 18446744073709551616 - 1) % 18446744073709551616 : Nat)⟩ : Addr4).av, .int .i64 (if a = zeroA then 3 else 0)]) [] := by
  have h1 := rightA_spec six a
  rw [hr] at h1
  refine FSpec.of_flat (q := []) Tryz.func116 (by kernel_rfl) rfl Tryz.ntmps116 Tryz.results116 hP (by kernel_rfl) (by simp) (by first | rfl | simp) ?_
  simp -implicitDefEqProofs
  first | refine CallK.same (h1) rfl rfl ?_ | refine CallQ.same (h1) rfl rfl ?_ | refine CallQG.same _ (h1) rfl ?_ | refine CallG.same _ (h1) rfl ?_ | refine CallK.pv (h1) rfl rfl ?_
  simp -implicitDefEqProofs
  have he := Addr4.eq_iff a zeroA
  refine ⟨fun h1 h2 => ?_, fun h => ?_⟩
  · have hab := he.2 ⟨h1, h2⟩
    simp [zeroA, hab]
  · have hne : ¬ a = zeroA := fun e => h (he.1 e).1 (he.1 e).2
    have hx := sub64_ext a.lo.toNat
    rw [Int.toNat_of_nonneg hw.2.2.1] at hx
    refine CallX.ext hx (vrep_tup2 _ _) rfl ?_
    simp -implicitDefEqProofs [hne]
theorem prevP_bad (six : Bool) (a : Addr4) (hr : rightA six a = false) : FSpec Tryz.prog 116 [.bool six, a.av] [] (.tup [zeroA.av, .int .i64 2]) [] := by
  have h1 := rightA_spec six a
  rw [hr] at h1
  refine FSpec.of_flat (q := []) Tryz.func116 (by kernel_rfl) rfl Tryz.ntmps116 Tryz.results116 hP (by kernel_rfl) (by simp) (by first | rfl | simp) ?_
  simp -implicitDefEqProofs
  first | refine CallK.same (h1) rfl rfl ?_ | refine CallQ.same (h1) rfl rfl ?_ | refine CallQG.same _ (h1) rfl ?_ | refine CallG.same _ (h1) rfl ?_ | refine CallK.pv (h1) rfl rfl ?_
  simp -implicitDefEqProofs [zeroA]
theorem zero_num {a : Addr4} (hw : a.wf) : a = zeroA ↔ a.num = 0 := by
  obtain ⟨h1, h2, h3, h4⟩ := hw
  rw [Addr4.eq_iff]
  unfold Addr4.num zeroA
  simp only
  omega
theorem dec_ofN {a : Addr4} (hw : a.wf) (h0 : ¬ a.num = 0) : (⟨IntKind.u64.wrap (a.hi - (if a.lo.toNat < 1 then 1 else 0 : Nat)), ((a.lo.toNat + 18446744073709551616 - 1) % 18446744073709551616 : Nat)⟩ : Addr4) = ofN (a.num - 1) := by
  obtain ⟨h1, h2, h3, h4⟩ := hw
  unfold ofN
  unfold Addr4.num at h0 ⊢
  refine (Addr4.eq_iff _ _).2 ⟨?_, ?_⟩
  · show IntKind.u64.wrap _ = (((a.hi.toNat * 18446744073709551616 + a.lo.toNat - 1) / 18446744073709551616 : Nat) : Int)
    by_cases c : a.lo.toNat < 1
    · rw [if_pos c, wrapU (by omega) (by omega)]
      omega
    · rw [if_neg c, wrapU (by omega) (by omega)]
      omega
  · show (((a.lo.toNat + 18446744073709551616 - 1) % 18446744073709551616 : Nat) : Int) = (((a.hi.toNat * 18446744073709551616 + a.lo.toNat - 1) % 18446744073709551616 : Nat) : Int)
    omega
theorem prev_spec (six : Bool) (a : Addr4) (hw : a.wf) : FSpec Tryz.prog 116 [.bool six, a.av] [] (.tup [(prevF six a).1.av, .int .i64 (prevF six a).2]) [] := by
  unfold prevF
  cases hr : rightA six a with
  | false => exact prevP_bad six a hr
  | true =>
    have h := prevP_walk six a hw hr
    have hm := zero_num hw
    rw [if_neg (by decide)]
    by_cases hn : a.num = 0
    · simp only [if_pos (hm.2 hn)] at h
      rw [if_pos hn]
      exact h
    · simp only [if_neg (fun e => hn (hm.1 e))] at h
      rw [dec_ofN hw hn] at h
      rw [if_neg hn]
      exact h
end Go.Am


set_option linter.unusedVariables false
set_option linter.unusedSimpArgs false
set_option pp.deepTerms false
set_option pp.deepTerms.threshold 40
namespace Go.Am
open Go.Proofs

def aheadA (pv : Option Addr4) (a : Addr4) : Bool := match pv with | none => true | some p => decide (cmpA p a < 0)
def checkAL (six : Bool) : List Addr4 → Option Addr4 → Int
  | [], _ => 0
  | a :: t, pv => if !rightA six a || !aheadA pv a then 2 else checkAL six t (some a)
def prevA (l : List Addr4) (k : Nat) : Option Addr4 := if k = 0 then none else l[k - 1]?
def checkC (six : Bool) (l : List Addr4) : Int := if l.length = 0 ∨ 4096 < l.length ∨ ¬ l.head? = some zeroA then 2 else checkAL six l none
set_option maxRecDepth 4000 in
set_option maxHeartbeats 1000000 in
theorem checkC_loop (six : Bool) (l : List Addr4) (hwf : wfL l) (hl : 0 < l.length ∧ l.length ≤ 4096) (hz : l.head? = some zeroA) : FSpec Tryz.prog 38 [.bool six, .im (.sl 2 (l.map Addr4.iv))] [] (.int .i64 (checkAL six l none)) [] := by
  obtain ⟨c, t, hct⟩ : ∃ c t, l = c :: t := by cases l with | nil => cases hz | cons c t => exact ⟨c, t, rfl⟩
  have hc0 : c = zeroA := by rw [hct] at hz; simpa using hz
  have hg0 : (l.map Addr4.iv)[0]? = some [.sc (.int .u64 0), .sc (.int .u64 0)] := by rw [hct, hc0]; rfl
  have q1 : ¬ (l.length : Int) = 0 := by omega
  have q2 : ¬ (4096 : Int) < l.length := by omega
  have q3 : ¬ (l.length : Int) < 1 := by omega
  have q4 : decide ((4096 : Int) < l.length) = false := by simp; omega
  have q5 : decide ((l.length : Int) < 1) = false := by simp; omega
  have q6 : ((l.length : Int) == 0) = false := beq_eq_false_iff_ne.2 q1
  refine FSpec.of_flat (q := [(2, .n 13), (7, .n 14)]) Tryz.func38 (by kernel_rfl) rfl Tryz.ntmps38 Tryz.results38 hP (by kernel_rfl) (by simp) (by first | rfl | simp) ?_
  simp -implicitDefEqProofs [q1, q2, q3, q4, q5, q6, hg0]
  refine ⟨hl.1, ?_⟩
  refine LoopK.os (fun k : Nat => [(0, .bool six), (1, .im (.sl 2 (l.map Addr4.iv))), (24, .im (.sl 2 (l.map Addr4.iv))), (25, .int .i64 l.length), (26, .int .i64 k)])
    (fun _ => []) (fun k => k ≤ l.length ∧ checkAL six (l.drop k) (prevA l k) = checkAL six l none)
    (fun k => l.length - k) 0 [] ⟨Nat.zero_le _, by simp [prevA]⟩ (by simp) ?_
  rintro k ⟨hk, hR⟩
  by_cases hlt : k < l.length
  · have hw : IntKind.i64.wrap (k + 1) = (k + 1 : Nat) := wrap64 (by omega) (by omega)
    have hw1 : IntKind.i64.wrap (k - 1) = (k : Int) - 1 := wrap64 (by omega) (by omega)
    rw [List.drop_eq_getElem_cons hlt, checkAL] at hR
    obtain ⟨a, ha⟩ : ∃ a, l[k] = a := ⟨_, rfl⟩
    rw [ha] at hR
    have haw : a.wf := ha ▸ hwf _ (List.getElem_mem hlt)
    obtain ⟨y, hy, hyw, hp⟩ : ∃ y, l[k - 1]? = some y ∧ y.wf ∧ (0 < k → prevA l k = some y) := by
      refine ⟨l[k - 1]'(by omega), List.getElem?_eq_getElem (by omega), hwf _ (List.getElem_mem _), fun h => ?_⟩
      simp [prevA, show k ≠ 0 by omega, List.getElem?_eq_getElem (show k - 1 < l.length by omega)]
    have hp0 : k = 0 → prevA l k = none := by intro h; simp [prevA, h]
    have hah : aheadA (prevA l k) a = (decide (k = 0) || decide (cmpA y a < 0)) := by
      rcases Nat.eq_zero_or_pos k with e | e
      · rw [hp0 e]; simp [aheadA, e]
      · rw [hp e]; simp [aheadA, show k ≠ 0 by omega]
    have hnx : prevA l (k + 1) = some a := by simp [prevA, hlt, ha]
    have hgy : (l.map Addr4.iv)[k - 1]? = some y.iv := by rw [List.getElem?_map, hy]; rfl
    have h1 := rightA_spec six a
    have h2 := cmpA_spec y a
    simp -implicitDefEqProofs [hlt, ha]
    first | refine CallK.same (h1) rfl rfl ?_ | refine CallQ.same (h1) rfl rfl ?_ | refine CallQG.same _ (h1) rfl ?_ | refine CallG.same _ (h1) rfl ?_ | refine CallK.pv (h1) rfl rfl ?_
    cases hra : rightA six a with
    | false =>
      simp [hra] at hR
      simp -implicitDefEqProofs [hw1, hw, hgy, ← hR]
      first | refine CallG.off (.bool true) ?_ | (refine CallG.on ?_; first | refine CallK.same (h2) rfl rfl ?_ | refine CallQ.same (h2) rfl rfl ?_ | refine CallQG.same _ (h2) rfl ?_ | refine CallG.same _ (h2) rfl ?_ | refine CallK.pv (h2) rfl rfl ?_)
      simp -implicitDefEqProofs
    | true =>
      rcases Nat.eq_zero_or_pos k with e | e
      · subst e
        have em : IntKind.i64.wrap (-1) = -1 := by decide
        have hy0 : l[0]? = some y := hy
        simp -implicitDefEqProofs [em, hy0]
        first | refine CallG.off (.bool true) ?_ | (refine CallG.on ?_; first | refine CallK.same (h2) rfl rfl ?_ | refine CallQ.same (h2) rfl rfl ?_ | refine CallQG.same _ (h2) rfl ?_ | refine CallG.same _ (h2) rfl ?_ | refine CallK.pv (h2) rfl rfl ?_)
        simp -implicitDefEqProofs [hw1, hw, hgy]
        refine Again.os 1 [] ⟨by omega, ?_⟩ (by omega) ?_
        · rw [hah] at hR
          rw [if_neg (by simp [hra])] at hR
          rw [show (1 : Nat) = 0 + 1 from rfl, hnx]
          exact hR
        · simp
          decide
      · have e0 : decide (0 < k) = true := by simpa using e
        have e2 : ((k : Int) - 1).toNat = k - 1 := by omega
        simp -implicitDefEqProofs [hw1, hw, hgy, e0, e2, hy]
        refine ⟨⟨by omega, by omega⟩, ?_⟩
        first | refine CallG.off (.bool true) ?_ | (refine CallG.on ?_; first | refine CallK.same (h2) rfl rfl ?_ | refine CallQ.same (h2) rfl rfl ?_ | refine CallQG.same _ (h2) rfl ?_ | refine CallG.same _ (h2) rfl ?_ | refine CallK.pv (h2) rfl rfl ?_)
        simp -implicitDefEqProofs [hw1, hw, hgy]
        have e3 : ¬ k = 0 := by omega
        refine ⟨fun h => ?_, fun h => ?_⟩
        · rw [hah] at hR
          rw [if_pos (by simp [hra, e3]; omega)] at hR
          exact hR
        · rw [hah] at hR
          rw [if_neg (by simp [hra, e3]; omega)] at hR
          refine Again.os (k + 1) [] ⟨hlt, ?_⟩ (by omega) ?_
          · rw [hnx]; exact hR
          · simp [hw]
  · have : k = l.length := by omega
    subst this
    simp [checkAL] at hR
    simp [← hR]
set_option maxRecDepth 4000 in
set_option maxHeartbeats 1000000 in
theorem checkC_spec (six : Bool) (l : List Addr4) (hwf : wfL l) : FSpec Tryz.prog 38 [.bool six, .im (.sl 2 (l.map Addr4.iv))] [] (.int .i64 (checkC six l)) [] := by
  refine FSpec.bd (enters_of Tryz.func38 (by kernel_rfl) rfl) fun hbd => ?_
  have hlb : l.length ≤ 9223372036854775807 := by simp [maxLen] at hbd; exact hbd
  unfold checkC
  cases l with
  | nil =>
    rw [if_pos (.inl rfl)]
    refine FSpec.of_flat (q := [(2, .n 13), (7, .n 14)]) Tryz.func38 (by kernel_rfl) rfl Tryz.ntmps38 Tryz.results38 hP (by kernel_rfl) (by simp) (by first | rfl | simp) ?_
    simp -implicitDefEqProofs
  | cons c t =>
    by_cases h1 : 4096 < (c :: t).length
    · rw [if_pos (.inr (.inl h1))]
      have q1 : (4096 : Int) < (c :: t).length := by omega
      have q4 : decide ((4096 : Int) < (c :: t).length) = true := by simpa using q1
      have hg0 : ((c :: t).map Addr4.iv)[0]? = some c.iv := rfl
      have q3 : ¬ ((c :: t).length : Int) < 1 := by omega
      have q5 : decide (((c :: t).length : Int) < 1) = false := by simpa using q3
      have q6 : (((c :: t).length : Int) == 0) = false := beq_eq_false_iff_ne.2 (by omega)
      generalize c :: t = l at *
      refine FSpec.of_flat (q := [(2, .n 13), (7, .n 14)]) Tryz.func38 (by kernel_rfl) rfl Tryz.ntmps38 Tryz.results38 hP (by kernel_rfl) (by simp) (by first | rfl | simp) ?_
      simp -implicitDefEqProofs [q1, q3, q4, q5, q6, hg0]
    · by_cases h2 : c = zeroA
      · rw [if_neg (by rintro (h | h | h); cases h; exact h1 h; exact h (by rw [h2]; rfl))]
        exact checkC_loop six (c :: t) hwf ⟨Nat.succ_pos _, by omega⟩ (by rw [h2]; rfl)
      · rw [if_pos (.inr (.inr (fun h => h2 (by simpa using h))))]
        have q1 : ¬ (4096 : Int) < (c :: t).length := by omega
        have q4 : decide ((4096 : Int) < (c :: t).length) = false := by simpa using q1
        have hg0 : ((c :: t).map Addr4.iv)[0]? = some c.iv := rfl
        have q3 : ¬ ((c :: t).length : Int) < 1 := by have := (c :: t).length; simp; omega
        have q5 : decide (((c :: t).length : Int) < 1) = false := by simpa using q3
        have q6 : (((c :: t).length : Int) == 0) = false := beq_eq_false_iff_ne.2 (by simp; omega)
        have q0 : 0 < (c :: t).length := Nat.succ_pos _
        have h3 : ¬ (c.hi = 0 ∧ c.lo = 0) := fun h => h2 ((Addr4.eq_iff c zeroA).2 h)
        generalize c :: t = l at *
        refine FSpec.of_flat (q := [(2, .n 13), (7, .n 14)]) Tryz.func38 (by kernel_rfl) rfl Tryz.ntmps38 Tryz.results38 hP (by kernel_rfl) (by simp) (by first | rfl | simp) ?_
        simp -implicitDefEqProofs [q1, q3, q4, q5, q6, hg0]
        exact ⟨q0, fun a b => absurd ⟨a, b⟩ h3⟩
end Go.Am


set_option linter.unusedVariables false
set_option linter.unusedSimpArgs false
set_option pp.deepTerms false
set_option pp.deepTerms.threshold 40
namespace Go.Am
open Go.Proofs

theorem right_lt {six : Bool} {v : Nat} (h : v < 2 ^ wideN six) : rightA six (ofN v) = true := by
  cases six with
  | true => rfl
  | false =>
    have h : v < 4294967296 := h
    unfold rightA ofN
    simp only [Bool.false_or, Bool.and_eq_true, beq_iff_eq]
    constructor
    · omega
    · rw [Int.fdiv_eq_ediv_of_nonneg _ (by omega)]
      show ((v % 18446744073709551616 : Nat) : Int) / 4294967296 = 0
      omega
theorem last_lt {p : Pfx} (hw : p.addr.wf) (h : checkP p = 0) : p.addr.num ≤ lastN p ∧ lastN p < 2 ^ wideN p.six := by
  obtain ⟨l0, l1, l2⟩ := checkP_len h
  have hh := checkP_host hw h
  have hlt := Addr4.num_lt hw l2
  unfold lastN
  generalize hn : wideN p.six - p.len.toNat = n at *
  have hp := Nat.two_pow_pos n
  refine ⟨by omega, ?_⟩
  obtain ⟨q, hq⟩ := Nat.dvd_of_mod_eq_zero hh
  have hW : (2 : Nat) ^ wideN p.six = 2 ^ n * 2 ^ (wideN p.six - n) := by rw [← Nat.pow_add]; congr 1; omega
  rw [hq, hW] at hlt ⊢
  have h3 : q < 2 ^ (wideN p.six - n) := Nat.lt_of_mul_lt_mul_left hlt
  have h4 : 2 ^ n * (q + 1) ≤ 2 ^ n * 2 ^ (wideN p.six - n) := Nat.mul_le_mul_left _ h3
  rw [Nat.mul_add, Nat.mul_one] at h4
  omega
theorem pow_le (six : Bool) : 2 ^ wideN six ≤ 340282366920938463463374607431768211456 := by cases six <;> decide
def ofA (p : Pfx) : List Addr4 := if lastN p = maxN p.six then [p.addr] else [p.addr, ofN (lastN p + 1)]
theorem ofA_wf {p : Pfx} (hw : p.addr.wf) (h : checkP p = 0) : wfL (ofA p) := by
  have h1 := last_lt hw h
  have h2 := pow_le p.six
  unfold ofA
  split
  · intro x hx
    rw [List.mem_singleton] at hx
    rw [hx]; exact hw
  · rename_i hne
    intro x hx
    simp only [List.mem_cons, List.not_mem_nil, or_false] at hx
    rcases hx with rfl | rfl
    · exact hw
    · refine ofN_wf ?_
      unfold maxN at hne
      omega
theorem ofA_len (p : Pfx) : (ofA p).length ≤ 2 := by unfold ofA; split <;> simp
theorem next_last {p : Pfx} (hw : p.addr.wf) (h : checkP p = 0) : nextF p.six (ofN (lastN p)) = if lastN p = maxN p.six then (⟨0, 0⟩, 3) else (ofN (lastN p + 1), 0) := by
  have h1 := last_lt hw h
  have h2 := pow_le p.six
  unfold nextF
  rw [right_lt h1.2, if_neg (by decide), num_ofN (by omega)]
set_option maxRecDepth 8000 in
theorem sortedA_spec (l : List Addr4) (hw : wfL l) (hne : l ≠ []) (hl : l.length ≤ 100000000) : FSpec Tryz.prog 76 [.row 0] [.row 32 2 (l.map Addr4.iv)] (.im (.sl 2 ((sortA l).map Addr4.iv))) [.gone] := by
  have h1 := sortFA_spec l hw hne (by omega)
  have h2 := compactA_spec (msA l) (by rw [(msA_perm l).length_eq]; omega)
  rw [dedupA_sort hw] at h2
  generalize msA l = M at *
  generalize sortA l = S at *
  refine FSpec.of_o (q := []) Tryz.func76 (by kernel_rfl) rfl Tryz.ntmps76 Tryz.results76 hP (by kernel_rfl) (by simp) (by first | rfl | simp) ?_
  simp -implicitDefEqProofs
  refine CallO.mk [] [0] h1 (by simp) rfl (by simp) (by simp) (by simp) ?_
  simp -implicitDefEqProofs
  refine CallO.mk [] [0] h2 (by simp) rfl (by simp) (by simp) (by simp) ?_
  simp -implicitDefEqProofs
  refine EndO.ret [] [0] (.im (.sl 2 (S.map Addr4.iv))) (by simp) ?_
  simp -implicitDefEqProofs
end Go.Am


set_option linter.unusedVariables false
set_option linter.unusedSimpArgs false
set_option pp.deepTerms false
set_option pp.deepTerms.threshold 40
namespace Go.Am
open Go.Proofs

def rtC (six : Bool) (l : List Route) : List Addr4 := l.flatMap fun x => if x.pfx.six = six then ofA x.pfx else []
def roC (six : Bool) (rs : List Router) : List Addr4 := rs.flatMap fun r => rtC six r.routes
def evC (six : Bool) (es : List Ev) : List Addr4 := es.flatMap fun e => if e.kind = 3 ∧ e.pfx.six = six then ofA e.pfx else []
def rawC (p : Past) (six : Bool) : List Addr4 := zeroA :: (roC six p.base.routers ++ evC six p.evs)
theorem flatMap_take {α β : Type} (f : α → List β) {l : List α} {k : Nat} (h : k < l.length) : (l.take (k + 1)).flatMap f = (l.take k).flatMap f ++ f l[k] := by
  rw [List.take_add_one, List.getElem?_eq_getElem h, List.flatMap_append]
  simp
theorem flat_len {α β : Type} (f : α → List β) (m : Nat) : ∀ l : List α, (∀ x ∈ l, (f x).length ≤ m) → (l.flatMap f).length ≤ l.length * m
  | [], _ => by simp
  | x :: l, h => by
    have h1 := flat_len f m l fun y hy => h y (List.mem_cons_of_mem _ hy)
    have h2 := h x List.mem_cons_self
    rw [List.flatMap_cons, List.length_append, List.length_cons, Nat.add_mul]
    omega
theorem rtC_len (six : Bool) (l : List Route) : (rtC six l).length ≤ l.length * 2 := flat_len _ 2 l fun x _ => by
  split
  · exact ofA_len _
  · simp
theorem roC_len (six : Bool) (rs : List Router) (h : ∀ r ∈ rs, r.routes.length ≤ 256) : (roC six rs).length ≤ rs.length * 512 := flat_len _ 512 rs fun r hr => by
  have := rtC_len six r.routes
  have := h r hr
  omega
theorem evC_len (six : Bool) (es : List Ev) : (evC six es).length ≤ es.length * 2 := flat_len _ 2 es fun x _ => by
  split
  · exact ofA_len _
  · simp
theorem allGo_ev {hz : Int} : ∀ (l : List Ev) (n : Net) (i : Int), (allGo hz l n i).2.2 = 0 → ∀ e ∈ l, evOk e = true
  | [], _, _, _, e, he => by cases he
  | x :: l, n, i, h, e, he => by
    obtain ⟨h1, h2⟩ := allGo_step h
    rw [h2] at h
    rcases List.mem_cons.1 he with rfl | he
    · obtain ⟨q1, _, _⟩ := happensF_zero h1
      exact (mayS_zero q1).2.1
    · exact allGo_ev l _ _ h e he
theorem okP_ev {p : Past} (h : okP p = true) : ∀ e ∈ p.evs, e.kind = 3 → checkP e.pfx = 0 := by
  intro e he hk
  have := allGo_ev _ _ _ (okP_all h) e he
  unfold evOk at this
  simp only [Bool.and_eq_true] at this
  have := this.2
  unfold tailOk at this
  simp [hk] at this
  exact this.1.1.1
theorem okP_rt {p : Past} (h : okP p = true) : ∀ r ∈ p.base.routers, r.routes.length ≤ 256 ∧ ∀ x ∈ r.routes, checkP x.pfx = 0 := by
  intro r hr
  have h1 := (netOk_routers (okP_base h)).2 r hr
  refine ⟨(routerOk_len h1).1, fun x hx => ?_⟩
  unfold routerOk at h1
  simp only [Bool.and_eq_true, beq_iff_eq] at h1
  have := checkR_mem h1.1.2 x hx
  unfold routeOk at this
  simp only [Bool.and_eq_true, beq_iff_eq] at this
  exact this.2
theorem rawC_wf {p : Past} (hw : p.wf) (h : okP p = true) (six : Bool) : wfL (rawC p six) := by
  intro a ha
  rcases List.mem_cons.1 ha with rfl | ha
  · unfold zeroA Addr4.wf; decide
  rcases List.mem_append.1 ha with ha | ha
  · unfold roC rtC at ha
    simp only [List.mem_flatMap] at ha
    obtain ⟨r, hr, x, hx, hm⟩ := ha
    split at hm
    · exact ofA_wf (hw.1 r hr x hx) ((okP_rt h r hr).2 x hx) a hm
    · cases hm
  · unfold evC at ha
    simp only [List.mem_flatMap] at ha
    obtain ⟨e, he, hm⟩ := ha
    split at hm
    · rename_i hk
      exact ofA_wf (hw.2 e he).2 (okP_ev h e he hk.1) a hm
    · cases hm
theorem rawC_len {p : Past} (h : okP p = true) (six : Bool) : (rawC p six).length ≤ 1000000 := by
  have h1 := roC_len six p.base.routers fun r hr => (okP_rt h r hr).1
  have h2 := evC_len six p.evs
  have h3 := netOk_len (okP_base h)
  have h4 := okP_len h
  unfold rawC
  rw [List.length_cons, List.length_append]
  omega
def cutsF (p : Past) (six : Bool) : List Addr4 := sortA (rawC p six)
end Go.Am


set_option linter.unusedVariables false
set_option linter.unusedSimpArgs false
set_option pp.deepTerms false
set_option pp.deepTerms.threshold 40
namespace Go.Am
open Go.Proofs

theorem cloNAddr_spec (A : Option Addr) (c : Nat) : FSpec Tryz.prog 74 [.im (.sc (.slice A 0 c))] [] (.row 0) [.row 32 2 []] := by
  refine FSpec.of_o (q := []) Tryz.func74 (by kernel_rfl) rfl Tryz.ntmps74 Tryz.results74 hP (by kernel_rfl) (by simp) (by first | rfl | simp) ?_
  cases A with
  | none =>
    cases c with
    | zero =>
      simp -implicitDefEqProofs
      refine ⟨[.sl 2 32 2], [], [0], .row 0, by simp [St.nils], by simp [St.nils]⟩
    | succ c =>
      simp -implicitDefEqProofs
      refine ⟨[.sl 2 32 2], [], [0], .row 0, by simp [St.nils], by simp [St.nils]⟩
  | some ad =>
    simp -implicitDefEqProofs
    refine EndO.ret [] [1] (.row 1) (by simp) (by simp)
theorem cloAddr_spec (xs : List (List IV)) (hl : xs.length ≤ 4096) : FSpec Tryz.prog 74 [.im (.sl 2 xs)] [] (.row 0) [.row 32 2 xs] := by
  cases xs with
  | nil => exact FSpec.nilArg cloNAddr_spec
  | cons x xs =>
    refine FSpec.of_o (q := []) Tryz.func74 (by kernel_rfl) rfl Tryz.ntmps74 Tryz.results74 hP (by kernel_rfl) (by simp) (by first | rfl | simp) ?_
    simp -implicitDefEqProofs
    simp at hl
    refine ⟨⟨by omega, by unfold maxLen; omega⟩, ?_⟩
    refine EndO.ret [] [1] (.row 1) (by simp) (by simp)
def splitF (six : Bool) (cuts : List Addr4) (p : Pfx) : List Addr4 × Int :=
  if ¬ checkC six cuts = 0 ∨ ¬ p.six = six ∨ ¬ checkP p = 0 then ([], 2) else if 4096 < (sortA (cuts ++ ofA p)).length then (cuts, 11) else (sortA (cuts ++ ofA p), 0)
theorem ofo_spec (p : Pfx) : FSpec Tryz.prog 75 [p.av] [] (.fn 109 [.ptr 0 0]) [.box 34 [.bool p.six, .int .u64 p.addr.hi, .int .u64 p.addr.lo, .int .i64 p.len]] := by
  refine FSpec.of_o (q := []) Tryz.func75 (by kernel_rfl) rfl Tryz.ntmps75 Tryz.results75 hP (by kernel_rfl) (by simp) (by first | rfl | simp) ?_
  simp -implicitDefEqProofs
  refine EndO.ret [] [0] (.fn 109 [.ptr 0 0]) (by simp) ?_
  simp -implicitDefEqProofs
theorem checkC_len {six : Bool} {l : List Addr4} (h : checkC six l = 0) : 0 < l.length ∧ l.length ≤ 4096 := by
  unfold checkC at h
  split at h
  · cases h
  · omega
set_option maxRecDepth 8000 in
set_option maxHeartbeats 4000000 in
theorem split_walk (six : Bool) (cuts : List Addr4) (p : Pfx) (hcw : wfL cuts) (hc : checkC six cuts = 0) (hs : p.six = six) (hp : checkP p = 0) (L N : Addr4) (w : Int) (hw : w = 0 ∨ w = 3)
    (h1 : FSpec Tryz.prog 82 [p.av] [] (.tup [L.av, .int .i64 0]) []) (h2 : FSpec Tryz.prog 110 [.bool p.six, L.av] [] (.tup [N.av, .int .i64 w]) [])
    (O : List Addr4) (hO : O = if w = 0 then [p.addr, N] else [p.addr]) (hOw : wfL O) :
    FSpec Tryz.prog 40 [.bool six, .im (.sl 2 (cuts.map Addr4.iv)), p.av] [] (.tup [.im (.sl 2 ((if 4096 < (sortA (cuts ++ O)).length then cuts else sortA (cuts ++ O)).map Addr4.iv)), .int .i64 (if 4096 < (sortA (cuts ++ O)).length then 11 else 0)]) [] := by
  have g1 := checkC_spec six cuts hcw
  rw [hc] at g1
  have g2 := checkP_spec p
  rw [hp] at g2
  obtain ⟨hl0, hl1⟩ := checkC_len hc
  have g3 := cloAddr_spec (cuts.map Addr4.iv) (by simpa using hl1)
  subst hs
  refine FSpec.of_z (q := []) Tryz.func40 (by kernel_rfl) rfl Tryz.ntmps40 Tryz.results40 hP (by kernel_rfl) (by simp) (by first | rfl | simp) ?_
  simp -implicitDefEqProofs
  first | refine CallK.same (g1) rfl rfl ?_ | refine CallQ.same (g1) rfl rfl ?_ | refine CallQG.same _ (g1) rfl ?_ | refine CallG.same _ (g1) rfl ?_ | refine CallK.pv (g1) rfl rfl ?_
  simp -implicitDefEqProofs
  first | refine CallG.off (.bool true) ?_ | (refine CallG.on ?_; first | refine CallK.same (g2) rfl rfl ?_ | refine CallQ.same (g2) rfl rfl ?_ | refine CallQG.same _ (g2) rfl ?_ | refine CallG.same _ (g2) rfl ?_ | refine CallK.pv (g2) rfl rfl ?_)
  simp -implicitDefEqProofs
  refine CallK.outs [] g3 rfl (by simp) (by simp [AV.flat]) ?_
  simp -implicitDefEqProofs
  refine CallK.outs [] (ofo_spec p) rfl (by simp) (by simp [AV.flat]) ?_
  simp -implicitDefEqProofs [rangeK]
  intro a0 b rr
  refine ⟨_, _, _, [], Tryz.func109, (by kernel_rfl), rfl, Tryz.ntmps109, Tryz.results109, (by kernel_rfl), (by simp), ?_⟩
  simp -implicitDefEqProofs
  first | refine CallK.same (h1) rfl rfl ?_ | refine CallQ.same (h1) rfl rfl ?_ | refine CallQG.same _ (h1) rfl ?_ | refine CallG.same _ (h1) rfl ?_ | refine CallK.pv (h1) rfl rfl ?_
  simp -implicitDefEqProofs
  first | refine CallK.same (h2) rfl rfl ?_ | refine CallQ.same (h2) rfl rfl ?_ | refine CallQG.same _ (h2) rfl ?_ | refine CallG.same _ (h2) rfl ?_ | refine CallK.pv (h2) rfl rfl ?_
  simp -implicitDefEqProofs
  refine ⟨4, _, rfl, rfl, rfl, fun aI => ?_⟩
  simp -implicitDefEqProofs [putL, asgK]
  refine ⟨5, by simp, ?_⟩
  simp -implicitDefEqProofs
  refine ⟨⟨by omega, by unfold maxLen; omega⟩, ?_⟩
  refine endRd_normal 8 5 (by simp; rfl) (by simp) ?_
  rcases hw with rfl | rfl
  · simp -implicitDefEqProofs
    refine ⟨4, _, rfl, rfl, rfl, fun aJ => ?_⟩
    simp -implicitDefEqProofs [putL, asgK]
    refine ⟨5, by simp, ?_⟩
    simp -implicitDefEqProofs
    refine ⟨⟨by omega, by unfold maxLen; omega⟩, ?_⟩
    refine endRd_normal 12 5 (by simp; rfl) (by simp) ?_
    simp -implicitDefEqProofs
    refine ⟨4, _, 5, .ready, none, rfl, rfl, .inl rfl, ?_⟩
    simp -implicitDefEqProofs [pendK]
    have hO : O = [p.addr, N] := hO
    have hsw : wfL (cuts ++ O) := fun x hx => (List.mem_append.1 hx).elim (fun h => hcw x h) fun h => hOw x h
    have hsrt := sortedA_spec (cuts ++ O) hsw (by intro e; rw [List.append_eq_nil_iff] at e; rw [e.1] at hl0; cases hl0) (by rw [hO]; simp; omega)
    generalize sortA (cuts ++ O) = S at *
    rw [hO] at hsrt
    simp at hsrt
    refine CallO.mk [] [15] hsrt (by simp) rfl (by simp) (by simp) (by simp) ?_
    simp -implicitDefEqProofs
    refine ⟨fun h => ?_, fun h => ?_⟩
    · refine CallK.outs [] g3 rfl (by simp) (by simp [AV.flat]) ?_
      simp -implicitDefEqProofs
      refine EndZ.ret [16] (.tup [.row 16, .int .i64 11]) (by simp) ?_
      have hh : 4096 < S.length := by omega
      simp -implicitDefEqProofs [hh]
    · have hh : ¬ 4096 < S.length := by omega
      refine EndZ.ret [] (.tup [.im (.sl 2 (S.map Addr4.iv)), .int .i64 0]) (by simp) ?_
      simp -implicitDefEqProofs [hh]
  · simp -implicitDefEqProofs
    refine ⟨4, _, 5, .ready, none, rfl, rfl, .inl rfl, ?_⟩
    simp -implicitDefEqProofs [pendK]
    have hO : O = [p.addr] := hO
    have hsw : wfL (cuts ++ O) := fun x hx => (List.mem_append.1 hx).elim (fun h => hcw x h) fun h => hOw x h
    have hsrt := sortedA_spec (cuts ++ O) hsw (by intro e; rw [List.append_eq_nil_iff] at e; rw [e.1] at hl0; cases hl0) (by rw [hO]; simp; omega)
    generalize sortA (cuts ++ O) = S at *
    rw [hO] at hsrt
    simp at hsrt
    refine CallO.mk [] [11] hsrt (by simp) rfl (by simp) (by simp) (by simp) ?_
    simp -implicitDefEqProofs
    refine ⟨fun h => ?_, fun h => ?_⟩
    · refine CallK.outs [] g3 rfl (by simp) (by simp [AV.flat]) ?_
      simp -implicitDefEqProofs
      refine EndZ.ret [12] (.tup [.row 12, .int .i64 11]) (by simp) ?_
      have hh : 4096 < S.length := by omega
      simp -implicitDefEqProofs [hh]
    · have hh : ¬ 4096 < S.length := by omega
      refine EndZ.ret [] (.tup [.im (.sl 2 (S.map Addr4.iv)), .int .i64 0]) (by simp) ?_
      simp -implicitDefEqProofs [hh]
theorem ofA_next {p : Pfx} (hw : p.addr.wf) (h : checkP p = 0) : ∃ (N : Addr4) (w : Int), nextF p.six (ofN (lastN p)) = (N, w) ∧ (w = 0 ∨ w = 3) ∧ ofA p = if w = 0 then [p.addr, N] else [p.addr] := by
  rw [next_last hw h]
  unfold ofA
  by_cases hm : lastN p = maxN p.six
  · rw [if_pos hm, if_pos hm]
    exact ⟨_, _, rfl, .inr rfl, rfl⟩
  · rw [if_neg hm, if_neg hm]
    exact ⟨_, _, rfl, .inl rfl, rfl⟩
theorem of_parts {p : Pfx} (hw : p.addr.wf) (h : checkP p = 0) : ∃ (L N : Addr4) (w : Int), FSpec Tryz.prog 82 [p.av] [] (.tup [L.av, .int .i64 0]) [] ∧ FSpec Tryz.prog 110 [.bool p.six, L.av] [] (.tup [N.av, .int .i64 w]) [] ∧ (w = 0 ∨ w = 3) ∧ ofA p = if w = 0 then [p.addr, N] else [p.addr] := by
  have h1 := last_spec p hw
  unfold lastF at h1
  rw [if_pos h] at h1
  have hl := last_lt hw h
  have hp := pow_le p.six
  have h2 := next_spec p.six (ofN (lastN p)) (ofN_wf (by omega))
  obtain ⟨N, w, e1, e2, e3⟩ := ofA_next hw h
  rw [e1] at h2
  exact ⟨_, N, w, h1, h2, e2, e3⟩
theorem split_spec (six : Bool) (cuts : List Addr4) (p : Pfx) (hcw : wfL cuts) (hw : p.addr.wf) :
    FSpec Tryz.prog 40 [.bool six, .im (.sl 2 (cuts.map Addr4.iv)), p.av] [] (.tup [.im (.sl 2 ((splitF six cuts p).1.map Addr4.iv)), .int .i64 (splitF six cuts p).2]) [] := by
  unfold splitF
  by_cases hbad : ¬ checkC six cuts = 0 ∨ ¬ p.six = six ∨ ¬ checkP p = 0
  · rw [if_pos hbad]
    have g1 := checkC_spec six cuts hcw
    have g2 := checkP_spec p
    generalize checkC six cuts = C at *
    generalize checkP p = V at *
    refine FSpec.of_z (q := []) Tryz.func40 (by kernel_rfl) rfl Tryz.ntmps40 Tryz.results40 hP (by kernel_rfl) (by simp) (by first | rfl | simp) ?_
    simp -implicitDefEqProofs
    first | refine CallK.same (g1) rfl rfl ?_ | refine CallQ.same (g1) rfl rfl ?_ | refine CallQG.same _ (g1) rfl ?_ | refine CallG.same _ (g1) rfl ?_ | refine CallK.pv (g1) rfl rfl ?_
    simp -implicitDefEqProofs
    first | refine CallK.same (g2) rfl rfl ?_ | refine CallQ.same (g2) rfl rfl ?_ | refine CallQG.same _ (g2) rfl ?_ | refine CallG.same _ (g2) rfl ?_ | refine CallK.pv (g2) rfl rfl ?_
    simp -implicitDefEqProofs
    refine ⟨fun h => ?_, fun a b c => absurd hbad (by simp [a, b, c])⟩
    refine EndZ.ret [] (.tup [.im (.sc (.slice none 0 0)), .int .i64 2]) (by simp) ?_
    simp
  · rw [if_neg hbad]
    have h1 : checkC six cuts = 0 := Classical.byContradiction fun h => hbad (.inl h)
    have h2 : p.six = six := Classical.byContradiction fun h => hbad (.inr (.inl h))
    have h3 : checkP p = 0 := Classical.byContradiction fun h => hbad (.inr (.inr h))
    obtain ⟨L, N, w, k1, k2, k3, k4⟩ := of_parts hw h3
    have hs := split_walk six cuts p hcw h1 h2 h3 L N w k3 k1 k2 (ofA p) k4 (ofA_wf hw h3)
    by_cases hb : 4096 < (sortA (cuts ++ ofA p)).length
    · rw [if_pos hb, if_pos hb] at hs
      rw [if_pos hb]
      exact hs
    · rw [if_neg hb, if_neg hb] at hs
      rw [if_neg hb]
      exact hs
end Go.Am


set_option linter.unusedVariables false
set_option linter.unusedSimpArgs false
set_option pp.deepTerms false
set_option pp.deepTerms.threshold 40
namespace Go.Am
open Go.Proofs

end Go.Am


set_option linter.unusedVariables false
set_option linter.unusedSimpArgs false
set_option pp.deepTerms false
set_option pp.deepTerms.threshold 40
namespace Go.Am
open Go.Proofs

theorem checkAL_ok (six : Bool) : ∀ {l : List Addr4} {pv : Option Addr4}, wfL l → (∀ p, pv = some p → p.wf) → checkAL six l pv = 0 → (∀ a ∈ l, rightA six a = true) ∧ (∀ p, pv = some p → ∀ a ∈ l, p.num < a.num) ∧ SA l
  | [], pv, _, _, _ => ⟨fun a h => (by cases h), fun p _ a h => (by cases h), List.Pairwise.nil⟩
  | a :: t, pv, hw, hp, h => by
    rw [checkAL] at h
    split at h
    · cases h
    rename_i hc
    simp only [Bool.or_eq_true, Bool.not_eq_true', not_or, Bool.not_eq_false] at hc
    have haw := hw a List.mem_cons_self
    have hwt : wfL t := fun x hx => hw x (List.mem_cons_of_mem _ hx)
    obtain ⟨h1, h2, h3⟩ := checkAL_ok six hwt (fun p e => by cases e; exact haw) h
    have hh := h2 a rfl
    refine ⟨fun x hx => ?_, fun p e x hx => ?_, List.pairwise_cons.2 ⟨hh, h3⟩⟩
    · rcases List.mem_cons.1 hx with rfl | hx
      · exact hc.1
      · exact h1 x hx
    · subst e
      have hpa : p.num < a.num := by
        have := hc.2
        unfold aheadA at this
        exact (cmpA_lt (hp p rfl) haw).1 (by simpa using this)
      rcases List.mem_cons.1 hx with rfl | hx
      · exact hpa
      · have := hh x hx; omega
theorem checkC_ok {six : Bool} {l : List Addr4} (hw : wfL l) (h : checkC six l = 0) : (∀ a ∈ l, rightA six a = true) ∧ SA l ∧ l.head? = some zeroA := by
  unfold checkC at h
  split at h
  · cases h
  rename_i hc
  obtain ⟨h1, _, h3⟩ := checkAL_ok six hw (fun p e => by cases e) h
  exact ⟨h1, h3, Classical.byContradiction fun hn => hc (.inr (.inr hn))⟩
def cmpB (n a : Addr4) : Int := cmpA a n
theorem bsA_spec (l : List Addr4) (n : Addr4) (hst : strictC (cmpB n) l) :
    FSpec Tryz.prog 78 [.im (.sl 2 (l.map Addr4.iv)), n.av, .fn 70 []] [] (.tup [.int .i64 (bsI (cmpB n) l), .bool (bsF (cmpB n) l)]) [] := by
  have hs := fun (i j : Nat) (x y : Addr4) => @strict_up Addr4 (cmpB n) l hst i j x y
  refine FSpec.bd (enters_of Tryz.func78 (by kernel_rfl) rfl) fun hbd => ?_
  have hl : l.length ≤ 9223372036854775807 := by simp [maxLen] at hbd; omega
  refine FSpec.of_flat (q := [(5, .n 6), (8, .n 15)]) Tryz.func78 (by kernel_rfl) rfl Tryz.ntmps78 Tryz.results78 hP (by kernel_rfl) (by simp) (by first | rfl | simp) ?_
  simp
  refine LoopK.os (fun g : Nat × Nat => [(0, .im (.sl 2 (l.map Addr4.iv))), (2, .fn 70 []), (4, .ptr 0 0), (8, .int .i64 l.length), (9, .int .i64 g.1), (10, .int .i64 g.2)])
    (fun _ => [.box 32 [.int .u64 n.hi, .int .u64 n.lo]])
    (fun g => g.1 ≤ g.2 ∧ g.2 ≤ l.length ∧ (∀ i x, i < g.1 → l[i]? = some x → cmpB n x < 0) ∧ (∀ i x, g.2 ≤ i → l[i]? = some x → 0 ≤ cmpB n x)) (fun g => g.2 - g.1) (0, l.length) [0] ?_ ?_ ?_
  · exact ⟨Nat.zero_le _, Nat.le_refl _, fun i x hi => by omega, fun i x hi hx => by rw [List.getElem?_eq_none hi] at hx; cases hx⟩
  · simp
  rintro ⟨lo, hi⟩ ⟨h1, h2, h3, h4⟩
  simp only at h1 h2 h3 h4
  by_cases hlt : lo < hi
  · have hm := half_eq lo hi (by omega) (by omega)
    have hml : (lo + hi) / 2 < l.length := by omega
    obtain ⟨m, hmm⟩ : ∃ m, m = (lo + hi) / 2 := ⟨_, rfl⟩
    rw [← hmm] at hm hml
    have hg := List.getElem?_eq_getElem hml
    have hw1 : IntKind.i64.wrap (m + 1) = (m + 1 : Nat) := wrap64 (by omega) (by omega)
    simp [hlt, hm, hml, hg]
    generalize l[m] = x at *
    first | refine CallK.same (cmpA_spec x n) rfl rfl ?_ | refine CallQ.same (cmpA_spec x n) rfl rfl ?_ | refine CallQG.same _ (cmpA_spec x n) rfl ?_ | refine CallG.same _ (cmpA_spec x n) rfl ?_ | refine CallK.pv (cmpA_spec x n) rfl rfl ?_
    rw [show cmpA x n = cmpB n x from rfl] at *
    simp [hw1]
    refine ⟨fun hc => ?_, fun hc => ?_⟩
    · refine Again.os (m + 1, hi) [0] ⟨by omega, h2, fun i y hi' hy => ?_, h4⟩ (by simp only; omega) (by simp)
      exact hs i m y x (by omega) hy hg hc
    · refine Again.os (lo, m) [0] ⟨by omega, by omega, h3, fun i y hi' hy => ?_⟩ (by simp only; omega) (by simp)
      apply Classical.byContradiction
      intro hc'
      have := hs m i x y hi' hg hy (by omega)
      omega
  · have : lo = hi := by omega
    subst this
    have hb := bsI_eq (cmpB n) l lo h2 h3 (fun i x h5 h6 => by have := h4 i x h5 h6; omega)
    by_cases hll : lo < l.length
    · have hg := List.getElem?_eq_getElem hll
      simp [hll]
      generalize l[lo] = x at *
      first | refine CallK.same (cmpA_spec x n) rfl rfl ?_ | refine CallQ.same (cmpA_spec x n) rfl rfl ?_ | refine CallQG.same _ (cmpA_spec x n) rfl ?_ | refine CallG.same _ (cmpA_spec x n) rfl ?_ | refine CallK.pv (cmpA_spec x n) rfl rfl ?_
      simp [bsF, hb, hg]
      rfl
    · simp [hll, List.getElem?_eq_none (show l.length ≤ lo by omega)]
      refine CallQG.off (.int .i64 0) ?_
      simp [bsF, hb, List.getElem?_eq_none (show l.length ≤ lo by omega)]
theorem strictA {l : List Addr4} {n : Addr4} (hw : wfL l) (hn : n.wf) (h : SA l) : strictC (cmpB n) l := by
  refine List.Pairwise.imp_of_mem ?_ h
  intro x y hx hy hxy h0
  have h1 := cmpA_lt (hw x hx) hn
  have h2 := cmpA_gt (hw y hy) hn
  unfold cmpB at *
  omega
def whereN (n : Addr4) (l : List Addr4) : Nat := l.countP (fun c => decide (c.num ≤ n.num)) - 1
theorem count_lt {l : List Addr4} {n : Addr4} (hw : wfL l) (hn : n.wf) : (l.filter fun x => decide (cmpB n x < 0)).countP (fun c => decide (c.num ≤ n.num)) = (l.filter fun x => decide (cmpB n x < 0)).length := by
  rw [List.countP_eq_length]
  intro x hx
  obtain ⟨h1, h2⟩ := List.mem_filter.1 hx
  have := (cmpA_lt (hw x h1) hn).1 (of_decide_eq_true h2)
  simp; omega
theorem count_gt {l : List Addr4} {n : Addr4} (hw : wfL l) (hn : n.wf) : (l.filter fun x => decide (0 < cmpB n x)).countP (fun c => decide (c.num ≤ n.num)) = 0 := by
  rw [List.countP_eq_zero]
  intro x hx
  obtain ⟨h1, h2⟩ := List.mem_filter.1 hx
  have := (cmpA_gt (hw x h1) hn).1 (of_decide_eq_true h2)
  simp; omega
theorem bsA_where {l : List Addr4} {n : Addr4} (hw : wfL l) (hn : n.wf) (h : SA l) : l.countP (fun c => decide (c.num ≤ n.num)) = if bsF (cmpB n) l then bsI (cmpB n) l + 1 else bsI (cmpB n) l := by
  have hs := strictA hw hn h
  have hlt := bs_lt hs
  have hle := bsI_le (cmpB n) l
  have hlen : (l.filter fun x => decide (cmpB n x < 0)).length = bsI (cmpB n) l := by
    rw [← hlt, List.length_take]; omega
  cases hf : bsF (cmpB n) l with
  | true =>
    have hi := bsF_ltn hf
    have := bs_set hs (l[bsI (cmpB n) l]) hf
    rw [List.set_getElem_self] at this
    have hc : cmpB n l[bsI (cmpB n) l] = 0 := by
      unfold bsF at hf
      rw [List.getElem?_eq_getElem hi] at hf
      simpa using hf
    have heq := (cmpA_eq (hw _ (List.getElem_mem hi)) hn).1 hc
    rw [if_pos rfl]
    conv => lhs; rw [this]
    rw [List.countP_append, List.countP_append, count_lt hw hn, count_gt hw hn, hlen, heq]
    simp
  | false =>
    have := bs_none hs hf
    rw [if_neg (by decide)]
    conv => lhs; rw [this]
    rw [List.countP_append, count_lt hw hn, count_gt hw hn, hlen]
    rfl
theorem count_pos {six : Bool} {l : List Addr4} {n : Addr4} (hw : wfL l) (h : checkC six l = 0) : 0 < l.countP (fun c => decide (c.num ≤ n.num)) := by
  obtain ⟨_, _, h3⟩ := checkC_ok hw h
  rw [List.countP_pos_iff]
  refine ⟨zeroA, List.mem_of_mem_head? h3, ?_⟩
  simp [zeroA, Addr4.num]
def whereF (six : Bool) (l : List Addr4) (a : Addr4) : Nat × Int := if ¬ checkC six l = 0 ∨ rightA six a = false then (0, 2) else (whereN a l, 0)
set_option maxRecDepth 8000 in
theorem where_spec (six : Bool) (l : List Addr4) (a : Addr4) (hw : wfL l) (ha : a.wf) : FSpec Tryz.prog 42 [.bool six, .im (.sl 2 (l.map Addr4.iv)), a.av] [] (.tup [.int .i64 (whereF six l a).1, .int .i64 (whereF six l a).2]) [] := by
  unfold whereF
  have g1 := checkC_spec six l hw
  have g2 := rightA_spec six a
  by_cases hbad : ¬ checkC six l = 0 ∨ rightA six a = false
  · rw [if_pos hbad]
    generalize checkC six l = C at *
    generalize rightA six a = V at *
    refine FSpec.of_flat (q := []) Tryz.func42 (by kernel_rfl) rfl Tryz.ntmps42 Tryz.results42 hP (by kernel_rfl) (by simp) (by first | rfl | simp) ?_
    simp -implicitDefEqProofs
    first | refine CallK.same (g1) rfl rfl ?_ | refine CallQ.same (g1) rfl rfl ?_ | refine CallQG.same _ (g1) rfl ?_ | refine CallG.same _ (g1) rfl ?_ | refine CallK.pv (g1) rfl rfl ?_
    simp -implicitDefEqProofs
    first | refine CallK.same (g2) rfl rfl ?_ | refine CallQ.same (g2) rfl rfl ?_ | refine CallQG.same _ (g2) rfl ?_ | refine CallG.same _ (g2) rfl ?_ | refine CallK.pv (g2) rfl rfl ?_
    simp -implicitDefEqProofs
    intro b1 b2
    rcases hbad with h | h
    · exact absurd b1 h
    · rw [b2] at h; cases h
  · rw [if_neg hbad]
    have h1 : checkC six l = 0 := Classical.byContradiction fun h => hbad (.inl h)
    have h2 : rightA six a = true := by cases h : rightA six a with | true => rfl | false => exact absurd (.inr h) hbad
    obtain ⟨_, hs, _⟩ := checkC_ok hw h1
    have hb := bsA_spec l a (strictA hw ha hs)
    have hx := bsA_where hw ha hs
    have hp := count_pos (n := a) hw h1
    have hle := bsI_le (cmpB a) l
    have hl := (checkC_len h1).2
    have hwn : whereN a l = l.countP (fun c => decide (c.num ≤ a.num)) - 1 := rfl
    rw [h1] at g1
    rw [h2] at g2
    generalize bsI (cmpB a) l = I at *
    generalize bsF (cmpB a) l = B at *
    generalize whereN a l = W at *
    generalize l.countP (fun c => decide (c.num ≤ a.num)) = K at *
    refine FSpec.of_flat (q := []) Tryz.func42 (by kernel_rfl) rfl Tryz.ntmps42 Tryz.results42 hP (by kernel_rfl) (by simp) (by first | rfl | simp) ?_
    simp -implicitDefEqProofs
    first | refine CallK.same (g1) rfl rfl ?_ | refine CallQ.same (g1) rfl rfl ?_ | refine CallQG.same _ (g1) rfl ?_ | refine CallG.same _ (g1) rfl ?_ | refine CallK.pv (g1) rfl rfl ?_
    simp -implicitDefEqProofs
    first | refine CallG.off (.bool true) ?_ | (refine CallG.on ?_; first | refine CallK.same (g2) rfl rfl ?_ | refine CallQ.same (g2) rfl rfl ?_ | refine CallQG.same _ (g2) rfl ?_ | refine CallG.same _ (g2) rfl ?_ | refine CallK.pv (g2) rfl rfl ?_)
    simp -implicitDefEqProofs
    first | refine CallK.same (hb) rfl rfl ?_ | refine CallQ.same (hb) rfl rfl ?_ | refine CallQG.same _ (hb) rfl ?_ | refine CallG.same _ (hb) rfl ?_ | refine CallK.pv (hb) rfl rfl ?_
    cases B with
    | true =>
      simp -implicitDefEqProofs
      rw [if_pos rfl] at hx
      omega
    | false =>
      simp -implicitDefEqProofs
      rw [if_neg (by decide)] at hx
      rw [wrap64 (by omega) (by omega)]
      omega
end Go.Am


set_option linter.unusedVariables false
set_option linter.unusedSimpArgs false
set_option pp.deepTerms false
set_option pp.deepTerms.threshold 40
namespace Go.Am
open Go.Proofs

end Go.Am


set_option linter.unusedVariables false
set_option linter.unusedSimpArgs false
set_option pp.deepTerms false
set_option pp.deepTerms.threshold 40
namespace Go.Am
open Go.Proofs

structure Span4 where
  fr : Addr4
  to : Addr4
@[simp] def Span4.iv (s : Span4) : List IV := [.sc (.int .u64 s.fr.hi), .sc (.int .u64 s.fr.lo), .sc (.int .u64 s.to.hi), .sc (.int .u64 s.to.lo)]
def spanAt (six : Bool) (l : List Addr4) (i : Nat) : Span4 := ⟨l.getD i zeroA, if i + 1 < l.length then ofN ((l.getD (i + 1) zeroA).num - 1) else ofN (maxN six)⟩
def spansF (six : Bool) (l : List Addr4) : List Span4 := (List.range l.length).map (spanAt six l)
def allP (six : Bool) : Pfx := ⟨six, zeroA, 0⟩
theorem allP_ok (six : Bool) : checkP (allP six) = 0 := by cases six <;> decide
theorem allP_last (six : Bool) : lastF (allP six) = (ofN (maxN six), 0) := by
  unfold lastF
  rw [if_pos (allP_ok six)]
  cases six <;> rfl
theorem allP_wf (six : Bool) : (allP six).addr.wf := by unfold allP zeroA Addr4.wf; simp
theorem prev_cut {six : Bool} {l : List Addr4} (hw : wfL l) (h : checkC six l = 0) {i : Nat} (hi : i + 1 < l.length) : prevF six l[i + 1] = (ofN (l[i + 1].num - 1), 0) := by
  obtain ⟨h1, h2, h3⟩ := checkC_ok hw h
  have hlt := List.pairwise_iff_getElem.1 h2 i (i + 1) (by omega) hi (by omega)
  unfold prevF
  rw [h1 _ (List.getElem_mem hi), if_neg (by decide), if_neg (by omega)]
end Go.Am


set_option linter.unusedVariables false
set_option linter.unusedSimpArgs false
set_option pp.deepTerms false
set_option pp.deepTerms.threshold 40
namespace Go.Am
open Go.Proofs

theorem atomsO_spec (six : Bool) (l : List Addr4) : FSpec Tryz.prog 79 [.bool six, .im (.sl 2 (l.map Addr4.iv))] [] (.fn 115 [.ptr 0 0, .ptr 1 0]) [.box 4 [.bool six], .box 67 [.im (.sl 2 (l.map Addr4.iv))]] := by
  refine FSpec.of_o (q := []) Tryz.func79 (by kernel_rfl) rfl Tryz.ntmps79 Tryz.results79 hP (by kernel_rfl) (by simp) (by first | rfl | simp) ?_
  simp -implicitDefEqProofs
  refine EndO.ret [] [0, 1] (.fn 115 [.ptr 0 0, .ptr 1 0]) (by simp) ?_
  simp -implicitDefEqProofs
theorem checkAL_two (six : Bool) : ∀ (l : List Addr4) (p : Option Addr4), checkAL six l p = 0 ∨ checkAL six l p = 2
  | [], _ => .inl rfl
  | a :: t, pv => by
    unfold checkAL
    split
    · exact .inr rfl
    · exact checkAL_two six t (some a)
theorem checkC_two (six : Bool) (l : List Addr4) : checkC six l = 0 ∨ checkC six l = 2 := by
  unfold checkC
  split
  · exact .inr rfl
  · exact checkAL_two six l none
set_option maxRecDepth 8000 in
set_option maxHeartbeats 2000000 in
theorem spans_good (six : Bool) (l : List Addr4) (hw : wfL l) (h : checkC six l = 0) (E : Addr4) (hE : E = ofN (maxN six)) : FSpec Tryz.prog 44 [.bool six, .im (.sl 2 (l.map Addr4.iv))] [] (.tup [.im (.sl 4 ((spansF six l).map Span4.iv)), .int .i64 0]) [] := by
  have g1 := checkC_spec six l hw
  rw [h] at g1
  have hl := (checkC_len h).2
  have g2 := last_spec (allP six) (allP_wf six)
  rw [allP_last, ← hE] at g2
  refine FSpec.of_z (q := []) Tryz.func44 (by kernel_rfl) rfl Tryz.ntmps44 Tryz.results44 hP (by kernel_rfl) (by simp) (by first | rfl | simp) ?_
  simp -implicitDefEqProofs
  first | refine CallK.same (g1) rfl rfl ?_ | refine CallQ.same (g1) rfl rfl ?_ | refine CallQG.same _ (g1) rfl ?_ | refine CallG.same _ (g1) rfl ?_ | refine CallK.pv (g1) rfl rfl ?_
  simp -implicitDefEqProofs
  refine CallK.outs [] (atomsO_spec six l) rfl (by simp) (by simp [AV.flat]) ?_
  simp -implicitDefEqProofs [rangeK]
  intro a0 b rr
  refine ⟨_, _, _, [(6, .m [.p [], .p [], .p [], .p [], .p [], .p [], .e [29, 34], .p [], .p [], .p [2], .e [8, 36]])], Tryz.func115, (by kernel_rfl), rfl, Tryz.ntmps115, Tryz.results115, (by kernel_rfl), (by simp), ?_⟩
  simp -implicitDefEqProofs
  first | refine CallK.same (g2) rfl rfl ?_ | refine CallQ.same (g2) rfl rfl ?_ | refine CallQG.same _ (g2) rfl ?_ | refine CallG.same _ (g2) rfl ?_ | refine CallK.pv (g2) rfl rfl ?_
  simp -implicitDefEqProofs
  refine LoopK.nil (.cl 0 0 121 4) ?_
  simp -implicitDefEqProofs
  refine LoopK.os (fun k : Nat => [(0, .yld 5), (1, .ptr 2 0), (2, .ptr 3 0), (4, .ptr 6 0), (15, .im (.sl 2 (l.map Addr4.iv))), (16, .int .i64 l.length), (17, .int .i64 k)])
    (fun k => [.row 121 4 (((List.range k).map (spanAt six l)).map Span4.iv), .box 75 [.row 0], .box 4 [.bool six], .box 67 [.im (.sl 2 (l.map Addr4.iv))], .sv a0 [(7, .ptr 1 0)], .lp b rr .ready none, .box 32 [.int .u64 E.hi, .int .u64 E.lo]])
    (fun k => k ≤ l.length) (fun k => l.length - k) 0 [6, 0, 1, 2, 3, 4, 5] (Nat.zero_le _) (by simp [renM]) ?_
  intro k hk
  by_cases hlt : k < l.length
  · have e1 : IntKind.i64.wrap (k + 1) = (k + 1 : Nat) := wrap64 (by omega) (by omega)
    have ht : ((List.range (k + 1)).map (spanAt six l)) = ((List.range k).map (spanAt six l)) ++ [spanAt six l k] := by rw [List.range_succ, List.map_append]; rfl
    have hll : ((List.range k).map (spanAt six l)).length = k := by simp
    have hat : spanAt six l k = ⟨l[k], if k + 1 < l.length then ofN ((l.getD (k + 1) zeroA).num - 1) else E⟩ := by
      unfold spanAt
      rw [List.getD_eq_getElem?_getD, List.getElem?_eq_getElem hlt, hE]
      rfl
    obtain ⟨x, hx⟩ : ∃ x, l[k] = x := ⟨_, rfl⟩
    rw [hx] at hat
    simp -implicitDefEqProofs [hlt, hx]
    simp -implicitDefEqProofs [e1]
    by_cases hn : k + 1 < l.length
    · have hp := prev_cut hw h hn
      have g3 := prev_spec six l[k + 1] (hw _ (List.getElem_mem _))
      rw [hp] at g3
      have hat2 : spanAt six l k = ⟨x, ofN (l[k + 1].num - 1)⟩ := by
        rw [hat, if_pos hn, List.getD_eq_getElem?_getD, List.getElem?_eq_getElem hn]; rfl
      rw [hat2] at ht
      generalize ofN (l[k + 1].num - 1) = PV at *
      obtain ⟨y, hy⟩ : ∃ y, l[k + 1] = y := ⟨_, rfl⟩
      rw [hy] at g3
      refine ⟨fun _ => ⟨⟨by omega, by omega⟩, ?_⟩, fun h => by omega⟩
      have hy2 : l[k + 1]? = some y := by rw [List.getElem?_eq_getElem hn, hy]
      simp -implicitDefEqProofs [hy2]
      first | refine CallK.same (g3) rfl rfl ?_ | refine CallQ.same (g3) rfl rfl ?_ | refine CallQG.same _ (g3) rfl ?_ | refine CallG.same _ (g3) rfl ?_ | refine CallK.pv (g3) rfl rfl ?_
      simp -implicitDefEqProofs
      refine ⟨4, _, rfl, rfl, rfl, fun aI => ?_⟩
      simp -implicitDefEqProofs [putL, asgK]
      refine ⟨5, by simp, ?_⟩
      simp -implicitDefEqProofs
      refine ⟨⟨by omega, by unfold maxLen; omega⟩, ?_⟩
      refine endRd_normal 9 5 (by simp; rfl) (by simp) ?_
      simp -implicitDefEqProofs
      refine Again.os (k + 1) [12, 1, 2, 3, 4, 5, 6] hlt (by omega) ?_
      have ht2 := congrArg (List.map Span4.iv) ht
      simp [List.map_map] at ht2
      simp -implicitDefEqProofs [e1, ht2, renM]
    · rw [hat, if_neg hn] at ht
      refine ⟨fun h => by omega, fun _ => ?_⟩
      refine ⟨4, _, rfl, rfl, rfl, fun aI => ?_⟩
      simp -implicitDefEqProofs [putL, asgK]
      refine ⟨5, by simp, ?_⟩
      simp -implicitDefEqProofs
      refine ⟨⟨by omega, by unfold maxLen; omega⟩, ?_⟩
      refine endRd_normal 9 5 (by simp; rfl) (by simp) ?_
      simp -implicitDefEqProofs
      refine Again.os (k + 1) [12, 1, 2, 3, 4, 5, 6] hlt (by omega) ?_
      have ht2 := congrArg (List.map Span4.iv) ht
      simp [List.map_map] at ht2
      simp -implicitDefEqProofs [e1, ht2, renM]
  · have hkk : k = l.length := by omega
    subst hkk
    have hf : (List.range l.length).map (spanAt six l) = spansF six l := rfl
    rw [hf]
    generalize spansF six l = S at *
    simp -implicitDefEqProofs
    refine ⟨4, _, 5, .ready, none, rfl, rfl, .inl rfl, ?_⟩
    simp -implicitDefEqProofs [pendK]
    refine EndZ.ret [0] (.tup [.row 0, .int .i64 0]) (by simp) ?_
    simp -implicitDefEqProofs
theorem spans_spec (six : Bool) (l : List Addr4) (hw : wfL l) : FSpec Tryz.prog 44 [.bool six, .im (.sl 2 (l.map Addr4.iv))] [] (.tup [.im (.sl 4 (if checkC six l = 0 then (spansF six l).map Span4.iv else [])), .int .i64 (if checkC six l = 0 then 0 else 2)]) [] := by
  by_cases h : checkC six l = 0
  · rw [if_pos h, if_pos h]
    exact spans_good six l hw h _ rfl
  · have g1 := checkC_spec six l hw
    have hv := checkC_two six l
    rw [if_neg h, if_neg h]
    rw [hv.resolve_left h] at g1
    refine FSpec.of_z (q := []) Tryz.func44 (by kernel_rfl) rfl Tryz.ntmps44 Tryz.results44 hP (by kernel_rfl) (by simp) (by first | rfl | simp) ?_
    simp -implicitDefEqProofs
    first | refine CallK.same (g1) rfl rfl ?_ | refine CallQ.same (g1) rfl rfl ?_ | refine CallQG.same _ (g1) rfl ?_ | refine CallG.same _ (g1) rfl ?_ | refine CallK.pv (g1) rfl rfl ?_
    simp -implicitDefEqProofs
    refine EndZ.ret [] (.tup [.im (.sc (.slice none 0 0)), .int .i64 2]) (by simp) ?_
    simp
end Go.Am


set_option linter.unusedVariables false
set_option linter.unusedSimpArgs false
set_option pp.deepTerms false
set_option pp.deepTerms.threshold 40
namespace Go.Am
open Go.Proofs

theorem prefixesO_spec (p : Past) (six : Bool) : FSpec Tryz.prog 103 [p.av, .bool six] [] (.fn 143 [.ptr 0 0, .ptr 1 0]) [pastO p, .box 4 [.bool six]] := by
  refine FSpec.of_o (q := []) Tryz.func103 (by kernel_rfl) rfl Tryz.ntmps103 Tryz.results103 hP (by kernel_rfl) (by simp) (by first | rfl | simp) ?_
  simp -implicitDefEqProofs
  refine EndO.ret [] [0, 1] (.fn 143 [.ptr 0 0, .ptr 1 0]) (by simp) ?_
  simp -implicitDefEqProofs
set_option maxRecDepth 8000 in
set_option maxHeartbeats 4000000 in
theorem ofP_spec (p : Past) (six : Bool) (hw : p.wf) (h : okP p = true) : FSpec Tryz.prog 66 [p.av, .bool six] [] (.im (.sl 2 ((cutsF p six).map Addr4.iv))) [] := by
  have hraw := rawC_wf hw h six
  have hlen := rawC_len h six
  have hsr := sortedA_spec (rawC p six) hraw (by unfold rawC; simp) (by omega)
  have hrt := okP_rt h
  have hev := okP_ev h
  have hcut : rawC p six = zeroA :: (roC six p.base.routers ++ evC six p.evs) := rfl
  have hro := roC_len six p.base.routers fun r hr => (okP_rt h r hr).1
  have hrl := netOk_len (okP_base h)
  have hel := okP_len h
  have hcf : cutsF p six = sortA (rawC p six) := rfl
  rw [← hcf] at hsr
  generalize cutsF p six = D at *
  refine FSpec.of_z (q := []) Tryz.func66 (by kernel_rfl) rfl Tryz.ntmps66 Tryz.results66 hP (by kernel_rfl) (by simp) (by first | rfl | simp) ?_
  simp -implicitDefEqProofs
  refine CallK.outs [] (prefixesO_spec p six) rfl (by simp) (by simp [AV.flat]) ?_
  simp -implicitDefEqProofs [rangeK]
  intro a0 b rr
  refine ⟨_, _, _, [], Tryz.func143, (by kernel_rfl), rfl, Tryz.ntmps143, Tryz.results143, (by kernel_rfl), (by simp), ?_⟩
  simp -implicitDefEqProofs
  refine LoopK.os (fun k : Nat => [(0, .yld 5), (1, .ptr 2 0), (2, .ptr 3 0), (12, .im (.sl 4 (p.base.routers.map Router.iv))), (13, .int .i64 p.base.routers.length), (14, .int .i64 k)])
    (fun k => [.row 32 2 ((zeroA :: roC six (p.base.routers.take k)).map Addr4.iv), .box 67 [.row 0], pastO p, .box 4 [.bool six], .sv a0 [(5, .ptr 1 0)], .lp b rr .ready none])
    (fun k => k ≤ p.base.routers.length) (fun k => p.base.routers.length - k) 0 [1, 2, 3, 4, 5, 6] (Nat.zero_le _) (by simp [roC, zeroA, renM]) ?_
  intro k hk
  by_cases hlt : k < p.base.routers.length
  · have e1 : IntKind.i64.wrap (k + 1) = (k + 1 : Nat) := wrap64 (by omega) (by omega)
    have ht : roC six (p.base.routers.take (k + 1)) = roC six (p.base.routers.take k) ++ rtC six p.base.routers[k].routes := flatMap_take _ hlt
    have hrk := hrt p.base.routers[k] (List.getElem_mem _)
    have hwk := hw.1 p.base.routers[k] (List.getElem_mem _)
    have hrok := roC_len six (p.base.routers.take k) fun r hr => (hrt r (List.mem_of_mem_take hr)).1
    rw [List.length_take] at hrok
    obtain ⟨r, hr⟩ : ∃ r, p.base.routers[k] = r := ⟨_, rfl⟩
    rw [hr] at ht hrk hwk
    generalize roC six (p.base.routers.take k) = A at *
    simp -implicitDefEqProofs [hlt, hr]
    refine LoopK.os (fun j : Nat => [(0, .yld 5), (1, .ptr 2 0), (2, .ptr 3 0), (12, .im (.sl 4 (p.base.routers.map Router.iv))), (13, .int .i64 p.base.routers.length), (14, .int .i64 k), (19, .im (.sl 6 (r.routes.map Route.iv))), (20, .int .i64 r.routes.length), (21, .int .i64 j)])
      (fun j => [.row 32 2 ((zeroA :: (A ++ rtC six (r.routes.take j))).map Addr4.iv), .box 67 [.row 0], pastO p, .box 4 [.bool six], .sv a0 [(5, .ptr 1 0)], .lp b rr .ready none])
      (fun j => j ≤ r.routes.length) (fun j => r.routes.length - j) 0 [0, 1, 2, 3, 4, 5] (Nat.zero_le _) (by simp [rtC, zeroA, renM]) ?_
    intro j hj
    by_cases hjl : j < r.routes.length
    · have e2 : IntKind.i64.wrap (j + 1) = (j + 1 : Nat) := wrap64 (by omega) (by omega)
      have htj : rtC six (r.routes.take (j + 1)) = rtC six (r.routes.take j) ++ (if r.routes[j].pfx.six = six then ofA r.routes[j].pfx else []) := flatMap_take _ hjl
      have hxl := rtC_len six (r.routes.take j)
      rw [List.length_take] at hxl
      obtain ⟨L, N, w, h1, h2, hwv, hO⟩ := of_parts (hwk _ (List.getElem_mem hjl)) (hrk.2 _ (List.getElem_mem hjl))
      obtain ⟨x, hx⟩ : ∃ x, r.routes[j] = x := ⟨_, rfl⟩
      rw [hx] at htj h1 h2 hO
      generalize rtC six (r.routes.take j) = B at *
      simp -implicitDefEqProofs [hjl, hx]
      refine ⟨fun h => ?_, fun h => ?_⟩
      · rw [if_pos h] at htj
        refine ⟨4, _, rfl, rfl, rfl, fun aI => ?_⟩
        simp -implicitDefEqProofs [putL, asgK]
        refine ⟨5, by simp, ?_⟩
        simp -implicitDefEqProofs
        refine CallK.outs [] (ofo_spec x.pfx) rfl (by simp) (by simp [AV.flat]) ?_
        simp -implicitDefEqProofs [rangeI, rangeK]
        refine ⟨⟨5, _, _, _, rfl⟩, fun a1 b1 r1 => ?_⟩
        refine ⟨_, _, _, [], Tryz.func109, (by kernel_rfl), rfl, Tryz.ntmps109, Tryz.results109, (by kernel_rfl), (by simp), ?_⟩
        simp -implicitDefEqProofs
        first | refine CallK.same (h1) rfl rfl ?_ | refine CallQ.same (h1) rfl rfl ?_ | refine CallQG.same _ (h1) rfl ?_ | refine CallG.same _ (h1) rfl ?_ | refine CallK.pv (h1) rfl rfl ?_
        simp -implicitDefEqProofs
        first | refine CallK.same (h2) rfl rfl ?_ | refine CallQ.same (h2) rfl rfl ?_ | refine CallQG.same _ (h2) rfl ?_ | refine CallG.same _ (h2) rfl ?_ | refine CallK.pv (h2) rfl rfl ?_
        simp -implicitDefEqProofs
        refine ⟨10, _, rfl, rfl, rfl, fun aJ => ?_⟩
        simp -implicitDefEqProofs [putL, asgK]
        refine ⟨11, by simp, ?_⟩
        simp -implicitDefEqProofs
        refine ⟨⟨by omega, by unfold maxLen; omega⟩, ?_⟩
        refine endRd_normal 14 11 (by simp; rfl) (by simp) ?_
        rcases hwv with rfl | rfl
        · simp -implicitDefEqProofs
          refine ⟨10, _, rfl, rfl, rfl, fun aK => ?_⟩
          simp -implicitDefEqProofs [putL, asgK]
          refine ⟨11, by simp, ?_⟩
          simp -implicitDefEqProofs
          refine ⟨⟨by omega, by unfold maxLen; omega⟩, ?_⟩
          refine endRd_normal 18 11 (by simp; rfl) (by simp) ?_
          simp -implicitDefEqProofs
          refine ⟨10, _, 11, .ready, none, rfl, rfl, .inl rfl, ?_⟩
          simp -implicitDefEqProofs [pendK]
          refine endRd_normal 7 5 (by simp; rfl) (by simp) ?_
          simp -implicitDefEqProofs [h]
          rw [if_pos rfl] at hO
          refine Again.os (j + 1) [21, 1, 2, 3, 4, 5] hjl (by omega) ?_
          simp -implicitDefEqProofs [e2, htj, hO, renM]
        · simp -implicitDefEqProofs
          refine ⟨10, _, 11, .ready, none, rfl, rfl, .inl rfl, ?_⟩
          simp -implicitDefEqProofs [pendK]
          refine endRd_normal 7 5 (by simp; rfl) (by simp) ?_
          simp -implicitDefEqProofs [h]
          rw [if_neg (by decide)] at hO
          refine Again.os (j + 1) [17, 1, 2, 3, 4, 5] hjl (by omega) ?_
          simp -implicitDefEqProofs [e2, htj, hO, renM]
      · rw [if_neg h, List.append_nil] at htj
        refine ⟨fun hh => absurd hh h, fun _ => ?_⟩
        refine Again.os (j + 1) [0, 1, 2, 3, 4, 5] hjl (by omega) ?_
        simp -implicitDefEqProofs [e2, htj, renM]
    · have hjj : j = r.routes.length := by omega
      subst hjj
      rw [List.take_length]
      simp -implicitDefEqProofs
      refine Again.os (k + 1) [0, 1, 2, 3, 4, 5] hlt (by omega) ?_
      simp -implicitDefEqProofs [e1, ht, renM]
  · have hkk : k = p.base.routers.length := by omega
    subst hkk
    rw [List.take_length]
    simp -implicitDefEqProofs
    generalize roC six p.base.routers = A at *
    refine LoopK.os (fun k : Nat => [(0, .yld 5), (1, .ptr 2 0), (2, .ptr 3 0), (40, .im (.sl 12 (p.evs.map Ev.iv))), (41, .int .i64 p.evs.length), (42, .int .i64 k)])
      (fun k => [.row 32 2 ((zeroA :: (A ++ evC six (p.evs.take k))).map Addr4.iv), .box 67 [.row 0], pastO p, .box 4 [.bool six], .sv a0 [(5, .ptr 1 0)], .lp b rr .ready none])
      (fun k => k ≤ p.evs.length) (fun k => p.evs.length - k) 0 [0, 1, 2, 3, 4, 5] (Nat.zero_le _) (by simp [evC, renM]) ?_
    intro k hk
    by_cases hlt : k < p.evs.length
    · have e1 : IntKind.i64.wrap (k + 1) = (k + 1 : Nat) := wrap64 (by omega) (by omega)
      have ht : evC six (p.evs.take (k + 1)) = evC six (p.evs.take k) ++ (if p.evs[k].kind = 3 ∧ p.evs[k].pfx.six = six then ofA p.evs[k].pfx else []) := flatMap_take _ hlt
      have hxl := evC_len six (p.evs.take k)
      rw [List.length_take] at hxl
      have hxm : p.evs[k] ∈ p.evs := List.getElem_mem hlt
      obtain ⟨x, hx⟩ : ∃ x, p.evs[k] = x := ⟨_, rfl⟩
      rw [hx] at ht hxm
      generalize evC six (p.evs.take k) = B at *
      simp -implicitDefEqProofs [hlt, hx]
      refine ⟨fun hk3 h => ?_, fun h => ⟨fun hk3 h2 => absurd h2 (h hk3), fun _ => ?_⟩⟩
      · rw [if_pos ⟨hk3, h⟩] at ht
        obtain ⟨L, N, w, h1, h2, hwv, hO⟩ := of_parts (hw.2 x hxm).2 (hev x hxm hk3)
        refine ⟨4, _, rfl, rfl, rfl, fun aI => ?_⟩
        simp -implicitDefEqProofs [putL, asgK]
        refine ⟨5, by simp, ?_⟩
        simp -implicitDefEqProofs
        refine CallK.outs [] (ofo_spec x.pfx) rfl (by simp) (by simp [AV.flat]) ?_
        simp -implicitDefEqProofs [rangeI, rangeK]
        refine ⟨⟨5, _, _, _, rfl⟩, fun a1 b1 r1 => ?_⟩
        refine ⟨_, _, _, [], Tryz.func109, (by kernel_rfl), rfl, Tryz.ntmps109, Tryz.results109, (by kernel_rfl), (by simp), ?_⟩
        simp -implicitDefEqProofs
        first | refine CallK.same (h1) rfl rfl ?_ | refine CallQ.same (h1) rfl rfl ?_ | refine CallQG.same _ (h1) rfl ?_ | refine CallG.same _ (h1) rfl ?_ | refine CallK.pv (h1) rfl rfl ?_
        simp -implicitDefEqProofs
        first | refine CallK.same (h2) rfl rfl ?_ | refine CallQ.same (h2) rfl rfl ?_ | refine CallQG.same _ (h2) rfl ?_ | refine CallG.same _ (h2) rfl ?_ | refine CallK.pv (h2) rfl rfl ?_
        simp -implicitDefEqProofs
        refine ⟨10, _, rfl, rfl, rfl, fun aJ => ?_⟩
        simp -implicitDefEqProofs [putL, asgK]
        refine ⟨11, by simp, ?_⟩
        simp -implicitDefEqProofs
        refine ⟨⟨by omega, by unfold maxLen; omega⟩, ?_⟩
        refine endRd_normal 14 11 (by simp; rfl) (by simp) ?_
        rcases hwv with rfl | rfl
        · simp -implicitDefEqProofs
          refine ⟨10, _, rfl, rfl, rfl, fun aK => ?_⟩
          simp -implicitDefEqProofs [putL, asgK]
          refine ⟨11, by simp, ?_⟩
          simp -implicitDefEqProofs
          refine ⟨⟨by omega, by unfold maxLen; omega⟩, ?_⟩
          refine endRd_normal 18 11 (by simp; rfl) (by simp) ?_
          simp -implicitDefEqProofs
          refine ⟨10, _, 11, .ready, none, rfl, rfl, .inl rfl, ?_⟩
          simp -implicitDefEqProofs [pendK]
          refine endRd_normal 7 5 (by simp; rfl) (by simp) ?_
          simp -implicitDefEqProofs [hk3, h]
          rw [if_pos rfl] at hO
          refine Again.os (k + 1) [21, 1, 2, 3, 4, 5] hlt (by omega) ?_
          simp -implicitDefEqProofs [e1, ht, hO, renM]
        · simp -implicitDefEqProofs
          refine ⟨10, _, 11, .ready, none, rfl, rfl, .inl rfl, ?_⟩
          simp -implicitDefEqProofs [pendK]
          refine endRd_normal 7 5 (by simp; rfl) (by simp) ?_
          simp -implicitDefEqProofs [hk3, h]
          rw [if_neg (by decide)] at hO
          refine Again.os (k + 1) [17, 1, 2, 3, 4, 5] hlt (by omega) ?_
          simp -implicitDefEqProofs [e1, ht, hO, renM]
      · rw [if_neg (fun hh => h hh.1 hh.2), List.append_nil] at ht
        refine Again.os (k + 1) [0, 1, 2, 3, 4, 5] hlt (by omega) ?_
        simp -implicitDefEqProofs [e1, ht, renM]
    · have hkk : k = p.evs.length := by omega
      subst hkk
      rw [List.take_length, ← hcut]
      generalize rawC p six = R at *
      simp -implicitDefEqProofs
      refine ⟨4, _, 5, .ready, none, rfl, rfl, .inl rfl, ?_⟩
      simp -implicitDefEqProofs [pendK]
      refine CallO.mk [] [0] hsr (by simp) rfl (by simp) (by simp) (by simp) ?_
      simp -implicitDefEqProofs
      refine EndZ.ret [] (.im (.sl 2 (D.map Addr4.iv))) (by simp) ?_
      simp -implicitDefEqProofs
theorem cuts_spec (p : Past) (six : Bool) (hw : p.wf) : FSpec Tryz.prog 34 [p.av, .bool six] [] (.tup [.im (.sl 2 ((if okP p then cutsF p six else []).map Addr4.iv)), .int .i64 (if okP p then 0 else 2)]) [] := by
  have h1 := checkP_spec_ p fun e he => (hw.2 e he).1
  cases h : okP p with
  | true =>
    rw [h] at h1
    have h2 := ofP_spec p six hw h
    generalize cutsF p six = D at *
    refine FSpec.of_z (q := []) Tryz.func34 (by kernel_rfl) rfl Tryz.ntmps34 Tryz.results34 hP (by kernel_rfl) (by simp) (by first | rfl | simp) ?_
    simp -implicitDefEqProofs
    first | refine CallK.same (h1) rfl rfl ?_ | refine CallQ.same (h1) rfl rfl ?_ | refine CallQG.same _ (h1) rfl ?_ | refine CallG.same _ (h1) rfl ?_ | refine CallK.pv (h1) rfl rfl ?_
    simp -implicitDefEqProofs
    first | refine CallK.same (h2) rfl rfl ?_ | refine CallQ.same (h2) rfl rfl ?_ | refine CallQG.same _ (h2) rfl ?_ | refine CallG.same _ (h2) rfl ?_ | refine CallK.pv (h2) rfl rfl ?_
    simp -implicitDefEqProofs
    refine EndZ.ret [] (.tup [.im (.sl 2 (D.map Addr4.iv)), .int .i64 0]) (by simp) ?_
    simp -implicitDefEqProofs
  | false =>
    rw [h] at h1
    refine FSpec.of_z (q := []) Tryz.func34 (by kernel_rfl) rfl Tryz.ntmps34 Tryz.results34 hP (by kernel_rfl) (by simp) (by first | rfl | simp) ?_
    simp -implicitDefEqProofs
    first | refine CallK.same (h1) rfl rfl ?_ | refine CallQ.same (h1) rfl rfl ?_ | refine CallQG.same _ (h1) rfl ?_ | refine CallG.same _ (h1) rfl ?_ | refine CallK.pv (h1) rfl rfl ?_
    simp -implicitDefEqProofs
    refine EndZ.ret [] (.tup [.im (.sc (.slice none 0 0)), .int .i64 2]) (by simp) ?_
    simp
end Go.Am


set_option linter.unusedVariables false
set_option linter.unusedSimpArgs false
set_option pp.deepTerms false
set_option pp.deepTerms.threshold 40
namespace Go.Am
open Go.Proofs

set_option maxRecDepth 4000 in
theorem alike_spec (l : List Addr4) (hl : l.length ≤ 9223372036854775807) : FSpec Tryz.prog 37 [.im (.sl 2 (l.map Addr4.iv)), .im (.sl 2 (l.map Addr4.iv))] [] (.bool true) [] := by
  refine FSpec.of_flat (q := [(6, .n 8)]) Tryz.func37 (by kernel_rfl) rfl Tryz.ntmps37 Tryz.results37 hP (by kernel_rfl) (by simp) (by first | rfl | simp) ?_
  simp -implicitDefEqProofs
  refine LoopK.os (fun k : Nat => [(0, .im (.sl 2 (l.map Addr4.iv))), (1, .im (.sl 2 (l.map Addr4.iv))), (12, .int .i64 l.length), (13, .int .i64 k)])
    (fun k => []) (fun k => k ≤ l.length) (fun k => l.length - k) 0 [] (Nat.zero_le _) (by simp) ?_
  intro k hk
  by_cases hlt : k < l.length
  · have e1 : IntKind.i64.wrap (k + 1) = (k + 1 : Nat) := wrap64 (by omega) (by omega)
    obtain ⟨x, hx⟩ : ∃ x, l[k] = x := ⟨_, rfl⟩
    simp -implicitDefEqProofs [hlt, hx, e1]
    refine Again.os (k + 1) [] hlt (by omega) ?_
    simp -implicitDefEqProofs
  · have hkk : k = l.length := by omega
    subst hkk
    simp -implicitDefEqProofs
end Go.Am


set_option linter.unusedVariables false
set_option linter.unusedSimpArgs false
set_option pp.deepTerms false
set_option pp.deepTerms.threshold 40
namespace Go.Am
open Go.Proofs

theorem atO_spec (p : Past) (t : Int) (hew : ∀ e ∈ p.evs, 0 ≤ e.seq) : FSpec Tryz.prog 27 [p.av, .int .i64 t] []
    (.tup [(if okP p = true ∧ askT p t = 0 then thenF p t else net0).av, .int .i64 (if okP p then askT p t else 2)]) [] := by
  have h := atP_spec p t hew
  have e : (if okP p then (if askT p t = 0 then thenW p t else askT p t) else 2) = if okP p then askT p t else 2 := by
    by_cases hok : okP p = true
    · rw [if_pos hok, if_pos hok]
      by_cases hb : askT p t = 0
      · rw [if_pos hb, hb, thenW_ok hok]
      · rw [if_neg hb]
    · rw [if_neg hok, if_neg hok]
  rw [e] at h
  exact h
def lE1 : Ev := ⟨1, 4, 1, 5, ⟨false, ⟨0, 0⟩, 0⟩, ⟨0, 0⟩, 0, 0⟩
def lE2 : Ev := ⟨5, 4, 2, 8, ⟨false, ⟨0, 0⟩, 0⟩, ⟨0, 0⟩, 3, 7⟩
def lP0 : Past := ⟨⟨[], []⟩, -1, []⟩
def lP1 : Past := ⟨⟨[], []⟩, -1, [lE1]⟩
def lP2 : Past := ⟨⟨[], []⟩, -1, [lE1, lE2]⟩
def lB : Net := ⟨[⟨4, 1, 5, true⟩], [⟨4, true, [], []⟩]⟩
def lN : Net := ⟨[⟨4, 2, 8, true⟩], [⟨4, true, [], [⟨3, 7⟩]⟩]⟩
theorem l1 : takeP lP0 lE1 = (lP1, 0) := by kernel_rfl
theorem l2 : takeP lP1 lE2 = (lP2, 0) := by kernel_rfl
theorem l3 : okP lP2 = true := by kernel_rfl
theorem l4 : thenF lP2 4 = net0 := by kernel_rfl
theorem l5 : thenF lP2 5 = lB := by kernel_rfl
theorem l6 : nowP lP2 = lN := by kernel_rfl
theorem lw2 : ∀ e ∈ lP2.evs, 0 ≤ e.seq := by intro e he; simp [lP2, lE1, lE2] at he; rcases he with rfl | rfl <;> decide
theorem s1 : FSpec Tryz.prog 15 [lP0.av, lE1.av] [] (.tup [lP1.av, .int .i64 0]) [] := by
  have h := takePo_spec lP0 lE1 (by intro e he; cases he) (by decide)
  rw [l1] at h; exact h
theorem s2 : FSpec Tryz.prog 15 [lP1.av, lE2.av] [] (.tup [lP2.av, .int .i64 0]) [] := by
  have h := takePo_spec lP1 lE2 (by intro e he; simp [lP1, lE1] at he; subst he; decide) (by decide)
  rw [l2] at h; exact h
theorem s3 : FSpec Tryz.prog 27 [lP2.av, .int .i64 4] [] (.tup [net0.av, .int .i64 0]) [] := by
  have h := atO_spec lP2 4 lw2
  rw [if_pos ⟨l3, by decide⟩, if_pos l3, l4, show askT lP2 4 = 0 by decide] at h
  exact h
theorem s4 : FSpec Tryz.prog 27 [lP2.av, .int .i64 5] [] (.tup [lB.av, .int .i64 0]) [] := by
  have h := atO_spec lP2 5 lw2
  rw [if_pos ⟨l3, by decide⟩, if_pos l3, l5, show askT lP2 5 = 0 by decide] at h
  exact h
theorem s5 : FSpec Tryz.prog 29 [lP2.av] [] (.tup [lN.av, .int .i64 0]) [] := by
  have h := nowP_spec lP2 lw2
  rw [if_pos l3, if_pos l3, l6] at h
  exact h
end Go.Am


set_option linter.unusedVariables false
set_option linter.unusedSimpArgs false
set_option pp.deepTerms false
set_option pp.deepTerms.threshold 40
namespace Go.Am
open Go.Proofs

def vT : Pfx := ⟨false, ⟨0, 167772160⟩, 8⟩
def vQ : Pfx := ⟨false, ⟨0, 176160768⟩, 9⟩
def vE1 : Ev := ⟨1, 4, 1, 0, ⟨false, ⟨0, 0⟩, 0⟩, ⟨0, 0⟩, 0, 0⟩
def vE2 : Ev := ⟨3, 4, 2, 0, vT, ⟨2, 0⟩, 0, 0⟩
def vP1 : Past := ⟨⟨[], []⟩, -1, [vE1]⟩
def vP2 : Past := ⟨⟨[], []⟩, -1, [vE1, vE2]⟩
def vC : List Addr4 := [⟨0, 0⟩, ⟨0, 167772160⟩, ⟨0, 184549376⟩]
def vD : List Addr4 := [⟨0, 0⟩]
def vM : List Addr4 := [⟨0, 0⟩, ⟨0, 167772160⟩, ⟨0, 176160768⟩, ⟨0, 184549376⟩]
def vS : List Span4 := [⟨⟨0, 0⟩, ⟨0, 167772159⟩⟩, ⟨⟨0, 167772160⟩, ⟨0, 184549375⟩⟩, ⟨⟨0, 184549376⟩, ⟨0, 4294967295⟩⟩]
theorem vl1 : takeP lP0 vE1 = (vP1, 0) := by kernel_rfl
theorem vl2 : takeP vP1 vE2 = (vP2, 0) := by kernel_rfl
theorem vl3 : okP vP2 = true := by kernel_rfl
theorem vl4 : cutsF vP2 false = vC := by kernel_rfl
theorem vl5 : cutsF vP2 true = vD := by kernel_rfl
theorem vl6 : whereF false vC ⟨0, 167772165⟩ = (1, 0) := by kernel_rfl
theorem vl7 : checkC false vC = 0 := by kernel_rfl
theorem vl8 : spansF false vC = vS := by kernel_rfl
theorem vl9 : splitF false vC vQ = (vM, 0) := by kernel_rfl
theorem vl10 : splitF true vC vT = ([], 2) := by kernel_rfl
theorem vw : vP2.wf := ⟨by intro r hr; simp [vP2] at hr, by intro e he; simp [vP2, vE1, vE2, vT] at he; rcases he with rfl | rfl <;> refine ⟨by decide, ?_⟩ <;> unfold Addr4.wf <;> decide⟩
theorem vwc : wfL vC := by intro a ha; simp [vC] at ha; rcases ha with rfl | rfl | rfl <;> unfold Addr4.wf <;> decide
theorem vs1 : FSpec Tryz.prog 15 [lP0.av, vE1.av] [] (.tup [vP1.av, .int .i64 0]) [] := by
  have h := takePo_spec lP0 vE1 (by intro e he; cases he) (by decide)
  rw [vl1] at h; exact h
theorem vs2 : FSpec Tryz.prog 15 [vP1.av, vE2.av] [] (.tup [vP2.av, .int .i64 0]) [] := by
  have h := takePo_spec vP1 vE2 (by intro e he; simp [vP1, vE1] at he; subst he; decide) (by decide)
  rw [vl2] at h; exact h
theorem vs3 : FSpec Tryz.prog 34 [vP2.av, .bool false] [] (.tup [.im (.sl 2 (vC.map Addr4.iv)), .int .i64 0]) [] := by
  have h := cuts_spec vP2 false vw
  rw [if_pos vl3, if_pos vl3, vl4] at h; exact h
theorem vs4 : FSpec Tryz.prog 34 [vP2.av, .bool true] [] (.tup [.im (.sl 2 (vD.map Addr4.iv)), .int .i64 0]) [] := by
  have h := cuts_spec vP2 true vw
  rw [if_pos vl3, if_pos vl3, vl5] at h; exact h
theorem vs5 : FSpec Tryz.prog 42 [.bool false, .im (.sl 2 (vC.map Addr4.iv)), (Addr4.mk 0 167772165).av] [] (.tup [.int .i64 1, .int .i64 0]) [] := by
  have h := where_spec false vC ⟨0, 167772165⟩ vwc (by unfold Addr4.wf; decide)
  rw [vl6] at h; exact h
theorem vs6 : FSpec Tryz.prog 44 [.bool false, .im (.sl 2 (vC.map Addr4.iv))] [] (.tup [.im (.sl 4 (vS.map Span4.iv)), .int .i64 0]) [] := by
  have h := spans_spec false vC vwc
  rw [if_pos vl7, if_pos vl7, vl8] at h; exact h
theorem vs7 : FSpec Tryz.prog 40 [.bool false, .im (.sl 2 (vC.map Addr4.iv)), vQ.av] [] (.tup [.im (.sl 2 (vM.map Addr4.iv)), .int .i64 0]) [] := by
  have h := split_spec false vC vQ vwc (by unfold vQ Addr4.wf; decide)
  rw [vl9] at h; exact h
theorem vs8 : FSpec Tryz.prog 40 [.bool true, .im (.sl 2 (vC.map Addr4.iv)), vT.av] [] (.tup [.im (.sl 2 (([] : List Addr4).map Addr4.iv)), .int .i64 2]) [] := by
  have h := split_spec true vC vT vwc (by unfold vT Addr4.wf; decide)
  rw [vl10] at h; exact h
theorem vs9 : FSpec Tryz.prog 38 [.bool false, .im (.sl 2 (vC.map Addr4.iv))] [] (.int .i64 0) [] := by
  have h := checkC_spec false vC vwc
  rw [vl7] at h; exact h
set_option maxRecDepth 8000 in
set_option maxHeartbeats 4000000 in
theorem lives22_spec : FSpec Tryz.prog 36 [] [] (.bool true) [] := by
  have h1 := vs1
  have h2 := vs2
  have h3 := vs3
  have h4 := vs4
  have h5 := vs5
  have h6 := vs6
  have h7 := vs7
  have h8 := vs8
  have h9 := vs9
  simp [lP0, vE1, vP1, vE2, vP2, vC, vD, vS, vQ, vT, vM] at h1 h2 h3 h4 h5 h6 h7 h8 h9
  refine FSpec.of_flat (q := []) Tryz.func36 (by kernel_rfl) rfl Tryz.ntmps36 Tryz.results36 hP (by kernel_rfl) (by simp) (by first | rfl | simp) ?_
  simp -implicitDefEqProofs
  first | refine CallK.same (makePo_spec) rfl rfl ?_ | refine CallQ.same (makePo_spec) rfl rfl ?_ | refine CallQG.same _ (makePo_spec) rfl ?_ | refine CallG.same _ (makePo_spec) rfl ?_ | refine CallK.pv (makePo_spec) rfl rfl ?_
  simp -implicitDefEqProofs
  refine CallK.v0 h1 rfl (by simp) rfl ?_
  simp -implicitDefEqProofs
  refine CallK.v0 h2 rfl (by simp) rfl ?_
  simp -implicitDefEqProofs
  refine CallK.v0 h3 rfl (by simp) rfl ?_
  simp -implicitDefEqProofs
  refine CallK.v0 h4 rfl (by simp) rfl ?_
  simp -implicitDefEqProofs
  refine CallK.v0 h5 rfl (by simp) rfl ?_
  simp -implicitDefEqProofs
  refine CallK.v0 h6 rfl (by simp) rfl ?_
  simp -implicitDefEqProofs
  refine CallK.v0 h7 rfl (by simp) rfl ?_
  simp -implicitDefEqProofs
  refine CallK.v0 h8 rfl (by simp) rfl ?_
  simp -implicitDefEqProofs
  first | refine CallG.on ?_ | skip
  refine CallK.v0 h9 rfl (by simp) rfl ?_
  simp -implicitDefEqProofs
end Go.Am


set_option linter.unusedVariables false
set_option linter.unusedSimpArgs false
set_option pp.deepTerms false
set_option pp.deepTerms.threshold 40
namespace Go.Am
open Go.Proofs

theorem rows_of {α : Type} {f : α → List IV} {Q : α → Prop} {l : List Sh} (h : ∀ y, Sh.hasL l y → ∃ a, Q a ∧ y = f a) : ∀ xs : List (List IV), (∀ y ∈ xs, Sh.hasL l y) → ∃ zs : List α, xs = zs.map f ∧ ∀ a ∈ zs, Q a
  | [], _ => ⟨[], rfl, fun a ha => by cases ha⟩
  | x :: xs, hx => by
    obtain ⟨a, h1, h2⟩ := h x (hx x List.mem_cons_self)
    obtain ⟨zs, h3, h4⟩ := rows_of h xs fun y hy => hx y (List.mem_cons_of_mem _ hy)
    exact ⟨a :: zs, by rw [h2, h3]; rfl, fun b hb => by
      rcases List.mem_cons.1 hb with rfl | hb
      · exact h1
      · exact h4 b hb⟩
theorem hasL_cons {s : Sh} {l : List Sh} {xs : List IV} (h : Sh.hasL (s :: l) xs) : ∃ y ys, xs = y :: ys ∧ s.has y ∧ Sh.hasL l ys := by simpa only [Sh.hasL] using h
theorem hasL_nil {xs : List IV} (h : Sh.hasL [] xs) : xs = [] := by simpa only [Sh.hasL] using h
theorem has_int {q : IntKind} {x : IV} (h : (Sh.int q).has x) : ∃ n : Int, x = .sc (.int q n) ∧ (Lit.int q n).wf = true := by simpa only [Sh.has] using h
theorem has_bool {x : IV} (h : Sh.bool.has x) : ∃ b : Bool, x = .sc (.bool b) := by simpa only [Sh.has] using h
theorem has_sl {l : List Sh} {x : IV} (h : (Sh.sl l).has x) : ∃ xs : List (List IV), x = .sl l.length xs ∧ ∀ y ∈ xs, Sh.hasL l y := by simpa only [Sh.has] using h
theorem u64_wf {n : Int} (h : (Lit.int .u64 n).wf = true) : 0 ≤ n ∧ n < 18446744073709551616 := by
  simp [Lit.wf, IntKind.min, IntKind.max, IntKind.signed, IntKind.bits] at h
  omega
def addrSh : List Sh := [.int .u64, .int .u64]
theorem addr_of (y : List IV) (h : Sh.hasL addrSh y) : ∃ a : Addr4, a.wf ∧ y.map AV.im = [.int .u64 a.hi, .int .u64 a.lo] := by
  obtain ⟨a, _, rfl, ha, h⟩ := hasL_cons h
  obtain ⟨b, _, rfl, hb, h⟩ := hasL_cons h
  cases hasL_nil h
  obtain ⟨a, rfl, wa⟩ := has_int ha
  obtain ⟨b, rfl, wb⟩ := has_int hb
  exact ⟨⟨a, b⟩, ⟨(u64_wf wa).1, (u64_wf wa).2, u64_wf wb⟩, rfl⟩
theorem hasArgs_cons {s : List Sh} {l : List (List Sh)} {xs : List (List IV)} (h : hasArgs (s :: l) xs) : ∃ y ys, xs = y :: ys ∧ Sh.hasL s y ∧ hasArgs l ys := h
end Go.Am


set_option linter.unusedVariables false
set_option linter.unusedSimpArgs false
set_option pp.deepTerms false
set_option pp.deepTerms.threshold 40
namespace Go.Am
open Go.Proofs

end Go.Am


set_option linter.unusedVariables false
set_option linter.unusedSimpArgs false
set_option pp.deepTerms false
set_option pp.deepTerms.threshold 40
namespace Go.Am
open Go.Proofs

end Go.Am


set_option linter.unusedVariables false
set_option linter.unusedSimpArgs false
set_option pp.deepTerms false
set_option pp.deepTerms.threshold 40
namespace Go.Am
open Go.Proofs

theorem addrRow_of (y : List IV) (h : Sh.hasL addrSh y) : ∃ a : Addr4, a.wf ∧ y = a.iv := by
  obtain ⟨a, _, rfl, ha, h⟩ := hasL_cons h
  obtain ⟨b, _, rfl, hb, h⟩ := hasL_cons h
  cases hasL_nil h
  obtain ⟨a, rfl, wa⟩ := has_int ha
  obtain ⟨b, rfl, wb⟩ := has_int hb
  exact ⟨⟨a, b⟩, ⟨(u64_wf wa).1, (u64_wf wa).2, u64_wf wb⟩, rfl⟩
def pfxSh : List Sh := [.bool, .int .u64, .int .u64, .int .i64]
theorem pfx_of (y : List IV) (h : Sh.hasL pfxSh y) : ∃ p : Pfx, p.addr.wf ∧ y.map AV.im = [.bool p.six, .int .u64 p.addr.hi, .int .u64 p.addr.lo, .int .i64 p.len] := by
  obtain ⟨a, _, rfl, ha, h⟩ := hasL_cons h
  obtain ⟨b, _, rfl, hb, h⟩ := hasL_cons h
  obtain ⟨c, _, rfl, hc, h⟩ := hasL_cons h
  obtain ⟨d, _, rfl, hd, h⟩ := hasL_cons h
  cases hasL_nil h
  obtain ⟨a, rfl⟩ := has_bool ha
  obtain ⟨b, rfl, wb⟩ := has_int hb
  obtain ⟨c, rfl, wc⟩ := has_int hc
  obtain ⟨d, rfl, _⟩ := has_int hd
  exact ⟨⟨a, ⟨b, c⟩, d⟩, ⟨(u64_wf wb).1, (u64_wf wb).2, u64_wf wc⟩, rfl⟩
theorem bool_arg (y : List IV) (h : Sh.hasL [.bool] y) : ∃ t : Bool, argAV Tryz.prog 4 y = .bool t := by
  obtain ⟨a, _, rfl, ha, h⟩ := hasL_cons h
  cases hasL_nil h
  obtain ⟨a, rfl⟩ := has_bool ha
  refine ⟨a, ?_⟩
  simp only [argAV, Tryz.underlying4]
theorem addr_arg (y : List IV) (h : Sh.hasL addrSh y) : ∃ a : Addr4, a.wf ∧ argAV Tryz.prog 32 y = a.av := by
  obtain ⟨a, ha, ea⟩ := addr_of y h
  refine ⟨a, ha, ?_⟩
  simp only [argAV, Tryz.underlying32, ea]
  rfl
theorem pfx_arg (y : List IV) (h : Sh.hasL pfxSh y) : ∃ p : Pfx, p.addr.wf ∧ argAV Tryz.prog 34 y = p.av := by
  obtain ⟨a, ha, ea⟩ := pfx_of y h
  refine ⟨a, ha, ?_⟩
  simp only [argAV, Tryz.underlying34, ea]
  rfl
theorem cuts_arg (y : List IV) (h : Sh.hasL [.sl addrSh] y) : ∃ l : List Addr4, wfL l ∧ argAV Tryz.prog 67 y = .im (.sl 2 (l.map Addr4.iv)) := by
  obtain ⟨a, _, rfl, ha, h⟩ := hasL_cons h
  cases hasL_nil h
  obtain ⟨xs, rfl, hx⟩ := has_sl ha
  obtain ⟨l, rfl, hl⟩ := rows_of addrRow_of xs hx
  refine ⟨l, hl, ?_⟩
  simp only [argAV, Tryz.underlying67]
  rfl
theorem args_finer {xs : List (List IV)} (h : hasArgs [[.bool], [.sl addrSh], pfxSh, addrSh, addrSh] xs) : ∃ (six : Bool) (l : List Addr4) (p : Pfx) (a b : Addr4), wfL l ∧ p.addr.wf ∧ a.wf ∧ b.wf ∧ argsAV Tryz.prog [4, 67, 34, 32, 32] xs = [.bool six, .im (.sl 2 (l.map Addr4.iv)), p.av, a.av, b.av] := by
  obtain ⟨x, _, rfl, hx, h⟩ := hasArgs_cons h
  obtain ⟨y, _, rfl, hy, h⟩ := hasArgs_cons h
  obtain ⟨z, _, rfl, hz, h⟩ := hasArgs_cons h
  obtain ⟨u, _, rfl, hu, h⟩ := hasArgs_cons h
  obtain ⟨v, _, rfl, hv, h⟩ := hasArgs_cons h
  cases h
  obtain ⟨six, es⟩ := bool_arg x hx
  obtain ⟨l, hl, el⟩ := cuts_arg y hy
  obtain ⟨p, hp, ep⟩ := pfx_arg z hz
  obtain ⟨a, ha, ea⟩ := addr_arg u hu
  obtain ⟨b, hb, eb⟩ := addr_arg v hv
  refine ⟨six, l, p, a, b, hl, hp, ha, hb, ?_⟩
  simp only [argsAV, ep, es, el, ea, eb]
end Go.Am


set_option linter.unusedVariables false
set_option linter.unusedSimpArgs false
set_option pp.deepTerms false
set_option pp.deepTerms.threshold 40
namespace Go.Am
open Go.Proofs

def hasN (p : Pfx) (six : Bool) (a : Addr4) : Bool := decide (checkP p = 0 ∧ p.six = six ∧ rightA six a = true ∧ p.addr.num ≤ a.num ∧ a.num ≤ lastN p)
set_option maxRecDepth 4000 in
theorem has_walk (p : Pfx) (six : Bool) (a L : Addr4) (w C3 C4 : Int) (R : Bool)
    (g1 : FSpec Tryz.prog 82 [p.av] [] (.tup [L.av, .int .i64 w]) []) (g2 : FSpec Tryz.prog 69 [.bool six, a.av] [] (.bool R) [])
    (g3 : FSpec Tryz.prog 70 [p.addr.av, a.av] [] (.int .i64 C3) []) (g4 : FSpec Tryz.prog 70 [a.av, L.av] [] (.int .i64 C4) []) :
    FSpec Tryz.prog 47 [p.av, .bool six, a.av] [] (.bool ((w == 0) && (p.six == six) && R && decide (C3 ≤ 0) && decide (C4 ≤ 0))) [] := by
  refine FSpec.of_flat (q := []) Tryz.func47 (by kernel_rfl) rfl Tryz.ntmps47 Tryz.results47 hP (by kernel_rfl) (by simp) (by first | rfl | simp) ?_
  simp -implicitDefEqProofs
  first | refine CallK.same (g1) rfl rfl ?_ | refine CallQ.same (g1) rfl rfl ?_ | refine CallQG.same _ (g1) rfl ?_ | refine CallG.same _ (g1) rfl ?_ | refine CallK.pv (g1) rfl rfl ?_
  simp -implicitDefEqProofs
  first | refine CallK.same (g2) rfl rfl ?_ | refine CallQ.same (g2) rfl rfl ?_ | refine CallQG.same _ (g2) rfl ?_ | refine CallG.same _ (g2) rfl ?_ | refine CallK.pv (g2) rfl rfl ?_
  simp -implicitDefEqProofs
  first | refine CallK.same (g3) rfl rfl ?_ | refine CallQ.same (g3) rfl rfl ?_ | refine CallQG.same _ (g3) rfl ?_ | refine CallG.same _ (g3) rfl ?_ | refine CallK.pv (g3) rfl rfl ?_
  simp -implicitDefEqProofs
  first | refine CallK.same (g4) rfl rfl ?_ | refine CallQ.same (g4) rfl rfl ?_ | refine CallQG.same _ (g4) rfl ?_ | refine CallG.same _ (g4) rfl ?_ | refine CallK.pv (g4) rfl rfl ?_
  simp -implicitDefEqProofs
theorem hasN_spec (p : Pfx) (six : Bool) (a : Addr4) (hw : p.addr.wf) (ha : a.wf) : FSpec Tryz.prog 47 [p.av, .bool six, a.av] [] (.bool (hasN p six a)) [] := by
  have g1 := last_spec p hw
  have h := has_walk p six a _ _ _ _ _ g1 (rightA_spec six a) (cmpA_spec p.addr a) (cmpA_spec a _)
  have e : hasN p six a = (((lastF p).2 == 0) && (p.six == six) && rightA six a && decide (cmpA p.addr a ≤ 0) && decide (cmpA a (lastF p).1 ≤ 0)) := by
    unfold hasN lastF
    by_cases hc : checkP p = 0
    · rw [if_pos hc]
      have hl := last_lt hw hc
      have hp := pow_le p.six
      have e3 := cmpA_gt hw ha
      have e4 := cmpA_gt ha (ofN_wf (v := lastN p) (by omega))
      rw [num_ofN (by omega)] at e4
      rw [Bool.eq_iff_iff]
      simp only [hc, decide_eq_true_eq, Bool.and_eq_true, beq_iff_eq, true_and]
      constructor
      · rintro ⟨h1, h2, h3, h4⟩
        exact ⟨⟨⟨h1, h2⟩, by omega⟩, by omega⟩
      · rintro ⟨⟨⟨h1, h2⟩, h3⟩, h4⟩
        exact ⟨h1, h2, by omega, by omega⟩
    · rw [if_neg hc]
      simp [hc]
  rw [e]
  exact h
end Go.Am


set_option linter.unusedVariables false
set_option linter.unusedSimpArgs false
set_option pp.deepTerms false
set_option pp.deepTerms.threshold 40
namespace Go.Am
open Go.Proofs

theorem checkAL_of (six : Bool) : ∀ {l : List Addr4} {pv : Option Addr4}, wfL l → (∀ p, pv = some p → p.wf) → (∀ a ∈ l, rightA six a = true) → (∀ p, pv = some p → ∀ a ∈ l, p.num < a.num) → SA l → checkAL six l pv = 0
  | [], pv, _, _, _, _, _ => rfl
  | a :: t, pv, hw, hp, h1, h2, h3 => by
    have haw := hw a List.mem_cons_self
    have h3c := List.pairwise_cons.1 h3
    rw [checkAL, if_neg]
    · exact checkAL_of six (fun x hx => hw x (List.mem_cons_of_mem _ hx)) (fun p e => by cases e; exact haw) (fun x hx => h1 x (List.mem_cons_of_mem _ hx)) (fun p e x hx => by cases e; exact h3c.1 x hx) h3c.2
    · simp only [Bool.or_eq_true, Bool.not_eq_true', not_or, Bool.not_eq_false]
      refine ⟨h1 a List.mem_cons_self, ?_⟩
      unfold aheadA
      cases pv with
      | none => rfl
      | some p => exact decide_eq_true ((cmpA_lt (hp p rfl) haw).2 (h2 p rfl a List.mem_cons_self))
theorem checkC_of {six : Bool} {l : List Addr4} (hw : wfL l) (h0 : 0 < l.length) (h1 : l.length ≤ 4096) (h2 : l.head? = some zeroA) (h3 : ∀ a ∈ l, rightA six a = true) (h4 : SA l) : checkC six l = 0 := by
  unfold checkC
  rw [if_neg]
  · exact checkAL_of six hw (fun p e => by cases e) h3 (fun p e => by cases e) h4
  · rintro (h | h | h)
    · omega
    · omega
    · exact h h2
theorem zeroA_num : zeroA.num = 0 := rfl
theorem sa_head {l : List Addr4} (hw : wfL l) (h : SA l) (hz : zeroA ∈ l) : l.head? = some zeroA := by
  cases l with
  | nil => cases hz
  | cons a t =>
    rcases List.mem_cons.1 hz with e | e
    · rw [← e]; rfl
    · have := (List.pairwise_cons.1 h).1 zeroA e
      rw [zeroA_num] at this
      omega
theorem ofA_right {p : Pfx} (hw : p.addr.wf) (h : checkP p = 0) : ∀ a ∈ ofA p, rightA p.six a = true := by
  obtain ⟨h1, h2⟩ := last_lt hw h
  intro a ha
  unfold ofA at ha
  have hr := (checkP_len h).2.2
  split at ha
  · simp at ha; subst ha; exact hr
  · rename_i hm
    simp at ha
    rcases ha with rfl | rfl
    · exact hr
    · refine right_lt ?_
      unfold maxN at hm
      omega
theorem splitA_ok {six : Bool} {l : List Addr4} {p : Pfx} (hl : wfL l) (hw : p.addr.wf) (h1 : checkC six l = 0) (h2 : p.six = six) (h3 : checkP p = 0) (h4 : (sortA (l ++ ofA p)).length ≤ 4096) :
    wfL (sortA (l ++ ofA p)) ∧ checkC six (sortA (l ++ ofA p)) = 0 ∧ splitF six (sortA (l ++ ofA p)) p = (sortA (l ++ ofA p), 0) ∧ (sortA (l ++ ofA p)).length ≤ l.length + 2 ∧ (∀ x, x ∈ sortA (l ++ ofA p) ↔ x ∈ l ∨ x ∈ ofA p) := by
  have hof := ofA_wf hw h3
  have hor := ofA_right hw h3
  have hol := ofA_len p
  obtain ⟨k1, k2, k3⟩ := checkC_ok hl h1
  have hsw : wfL (l ++ ofA p) := fun x hx => (List.mem_append.1 hx).elim (fun h => hl x h) fun h => hof x h
  obtain ⟨s1, s2, s3⟩ := sortA_all hsw
  have s4 := sortA_len (l ++ ofA p)
  rw [List.length_append] at s4
  have hz : zeroA ∈ l := by
    cases l with
    | nil => cases k3
    | cons a t => simp at k3; rw [k3]; exact List.mem_cons_self
  have hmem : ∀ x, x ∈ sortA (l ++ ofA p) ↔ x ∈ l ∨ x ∈ ofA p := fun x => by rw [s3 x, List.mem_append]
  have hzs : zeroA ∈ sortA (l ++ ofA p) := (hmem _).2 (.inl hz)
  have hc : checkC six (sortA (l ++ ofA p)) = 0 := checkC_of s1 (List.length_pos_of_mem hzs) h4 (sa_head s1 s2 hzs)
    (fun x hx => ((hmem x).1 hx).elim (fun h => k1 x h) fun h => by rw [← h2]; exact hor x h) s2
  have hs2 : sortA (sortA (l ++ ofA p) ++ ofA p) = sortA (l ++ ofA p) := by
    refine sortA_same (fun x hx => (List.mem_append.1 hx).elim (fun h => s1 x h) fun h => hof x h) hsw fun x => ?_
    rw [List.mem_append, s3 x, List.mem_append]
    constructor
    · rintro ((h | h) | h)
      · exact .inl h
      · exact .inr h
      · exact .inr h
    · exact fun h => .inl h
  refine ⟨s1, hc, ?_, by omega, hmem⟩
  unfold splitF
  rw [if_neg (by rintro (h | h | h); exact h hc; exact h h2; exact h h3), hs2, if_neg (by omega)]
theorem countP_split {α : Type} (P Q : α → Bool) (l : List α) (h : ∀ x ∈ l, P x = true → Q x = true) (he : l.countP P = l.countP Q) : ∀ x ∈ l, P x = Q x := by
  induction l with
  | nil => intro x hx; cases hx
  | cons y l ih =>
    have hle := List.countP_mono_left (l := l) fun x hx => h x (List.mem_cons_of_mem _ hx)
    have hy := h y List.mem_cons_self
    rw [List.countP_cons, List.countP_cons] at he
    have hyq : P y = Q y := by
      cases hp : P y with
      | true => rw [hy hp]
      | false =>
        cases hq : Q y with
        | false => rfl
        | true => simp [hp, hq] at he; omega
    rw [hyq] at he
    intro x hx
    rcases List.mem_cons.1 hx with rfl | hx
    · exact hyq
    · exact ih (fun x hx => h x (List.mem_cons_of_mem _ hx)) (by omega) x hx
theorem where_eq {six : Bool} {l : List Addr4} (hw : wfL l) (hc : checkC six l = 0) {a b : Addr4} (h : whereN a l = whereN b l) : ∀ c ∈ l, (c.num ≤ a.num ↔ c.num ≤ b.num) := by
  have h1 := count_pos (n := a) hw hc
  have h2 := count_pos (n := b) hw hc
  unfold whereN at h
  have he : l.countP (fun c => decide (c.num ≤ a.num)) = l.countP (fun c => decide (c.num ≤ b.num)) := by omega
  intro c hcm
  rcases Nat.le_total a.num b.num with hab | hab
  · have := countP_split _ _ l (fun x _ hx => by simp at hx ⊢; omega) he c hcm
    simpa using this
  · have := countP_split _ _ l (fun x _ hx => by simp at hx ⊢; omega) he.symm c hcm
    simp at this
    exact this.symm
theorem where_of {l : List Addr4} {a b : Addr4} (h : ∀ c ∈ l, (c.num ≤ a.num ↔ c.num ≤ b.num)) : whereN a l = whereN b l := by
  unfold whereN
  rw [List.countP_congr (p := fun c : Addr4 => decide (c.num ≤ a.num)) (q := fun c : Addr4 => decide (c.num ≤ b.num)) fun x hx => by simpa using h x hx]
theorem hasN_eq {p : Pfx} {six : Bool} {a b : Addr4} (hw : p.addr.wf) (h3 : checkP p = 0) (h2 : p.six = six) (haw : a.wf) (hbw : b.wf) (ha : rightA six a = true) (hb : rightA six b = true) (h : ∀ c ∈ ofA p, (c.num ≤ a.num ↔ c.num ≤ b.num)) : hasN p six a = hasN p six b := by
  obtain ⟨l1, l2⟩ := last_lt hw h3
  have hp := pow_le p.six
  have m1 := maxN_all haw ha
  have m2 := maxN_all hbw hb
  unfold ofA at h
  unfold hasN
  rw [Bool.eq_iff_iff, decide_eq_true_eq, decide_eq_true_eq]
  subst h2
  split at h
  · rename_i hm
    have h1 := h p.addr (by simp)
    constructor
    · rintro ⟨q1, q2, q3, q4, q5⟩
      exact ⟨q1, q2, hb, h1.1 q4, by omega⟩
    · rintro ⟨q1, q2, q3, q4, q5⟩
      exact ⟨q1, q2, ha, h1.2 q4, by omega⟩
  · rename_i hm
    have h1 := h p.addr (by simp)
    have h4 := h (ofN (lastN p + 1)) (by simp)
    rw [num_ofN (by unfold maxN at hm; omega)] at h4
    constructor
    · rintro ⟨q1, q2, q3, q4, q5⟩
      exact ⟨q1, q2, hb, h1.1 q4, by omega⟩
    · rintro ⟨q1, q2, q3, q4, q5⟩
      exact ⟨q1, q2, ha, h1.2 q4, by omega⟩
end Go.Am


set_option linter.unusedVariables false
set_option linter.unusedSimpArgs false
set_option pp.deepTerms false
set_option pp.deepTerms.threshold 40
namespace Go.Am
open Go.Proofs

set_option maxRecDepth 8000 in
set_option maxHeartbeats 4000000 in
theorem finer_walk (six : Bool) (l A : List Addr4) (p : Pfx) (a b : Addr4) (i k m n : Nat) (wa wb : Int) (ha hb : Bool)
    (g1 : FSpec Tryz.prog 40 [.bool six, .im (.sl 2 (l.map Addr4.iv)), p.av] [] (.tup [.im (.sl 2 (A.map Addr4.iv)), .int .i64 0]) [])
    (g2 : FSpec Tryz.prog 40 [.bool six, .im (.sl 2 (A.map Addr4.iv)), p.av] [] (.tup [.im (.sl 2 (A.map Addr4.iv)), .int .i64 0]) [])
    (g3 : FSpec Tryz.prog 42 [.bool six, .im (.sl 2 (l.map Addr4.iv)), a.av] [] (.tup [.int .i64 i, .int .i64 wa]) [])
    (g4 : FSpec Tryz.prog 42 [.bool six, .im (.sl 2 (l.map Addr4.iv)), b.av] [] (.tup [.int .i64 k, .int .i64 wb]) [])
    (g5 : FSpec Tryz.prog 42 [.bool six, .im (.sl 2 (A.map Addr4.iv)), a.av] [] (.tup [.int .i64 m, .int .i64 wa]) [])
    (g6 : FSpec Tryz.prog 42 [.bool six, .im (.sl 2 (A.map Addr4.iv)), b.av] [] (.tup [.int .i64 n, .int .i64 wb]) [])
    (g7 : FSpec Tryz.prog 37 [.im (.sl 2 (A.map Addr4.iv)), .im (.sl 2 (A.map Addr4.iv))] [] (.bool true) [])
    (g8 : FSpec Tryz.prog 38 [.bool six, .im (.sl 2 (A.map Addr4.iv))] [] (.int .i64 0) [])
    (g9 : FSpec Tryz.prog 47 [p.av, .bool six, a.av] [] (.bool ha) [])
    (g10 : FSpec Tryz.prog 47 [p.av, .bool six, b.av] [] (.bool hb) [])
    (hlen : A.length ≤ l.length + 2) (hl : l.length ≤ 5000) (law : wa = 0 → wb = 0 → m = n → i = k ∧ ha = hb) :
    FSpec Tryz.prog 12 [.bool six, .im (.sl 2 (l.map Addr4.iv)), p.av, a.av, b.av] [] (.bool true) [] := by
  have e1 : IntKind.i64.wrap ((l.length : Int) + 2) = (l.length : Int) + 2 := wrap64 (by omega) (by omega)
  refine FSpec.of_flat (q := [(15, .n 28)]) Tryz.func12 (by kernel_rfl) rfl Tryz.ntmps12 Tryz.results12 hP (by kernel_rfl) (by simp) (by first | rfl | simp) ?_
  simp -implicitDefEqProofs
  first | refine CallK.same (lives22_spec) rfl rfl ?_ | refine CallQ.same (lives22_spec) rfl rfl ?_ | refine CallQG.same _ (lives22_spec) rfl ?_ | refine CallG.same _ (lives22_spec) rfl ?_ | refine CallK.pv (lives22_spec) rfl rfl ?_
  simp -implicitDefEqProofs
  first | refine CallK.same (g1) rfl rfl ?_ | refine CallQ.same (g1) rfl rfl ?_ | refine CallQG.same _ (g1) rfl ?_ | refine CallG.same _ (g1) rfl ?_ | refine CallK.pv (g1) rfl rfl ?_
  simp -implicitDefEqProofs
  first | refine CallK.same (g2) rfl rfl ?_ | refine CallQ.same (g2) rfl rfl ?_ | refine CallQG.same _ (g2) rfl ?_ | refine CallG.same _ (g2) rfl ?_ | refine CallK.pv (g2) rfl rfl ?_
  simp -implicitDefEqProofs
  first | refine CallK.same (g3) rfl rfl ?_ | refine CallQ.same (g3) rfl rfl ?_ | refine CallQG.same _ (g3) rfl ?_ | refine CallG.same _ (g3) rfl ?_ | refine CallK.pv (g3) rfl rfl ?_
  simp -implicitDefEqProofs
  first | refine CallK.same (g4) rfl rfl ?_ | refine CallQ.same (g4) rfl rfl ?_ | refine CallQG.same _ (g4) rfl ?_ | refine CallG.same _ (g4) rfl ?_ | refine CallK.pv (g4) rfl rfl ?_
  simp -implicitDefEqProofs
  first | refine CallK.same (g5) rfl rfl ?_ | refine CallQ.same (g5) rfl rfl ?_ | refine CallQG.same _ (g5) rfl ?_ | refine CallG.same _ (g5) rfl ?_ | refine CallK.pv (g5) rfl rfl ?_
  simp -implicitDefEqProofs
  first | refine CallK.same (g6) rfl rfl ?_ | refine CallQ.same (g6) rfl rfl ?_ | refine CallQG.same _ (g6) rfl ?_ | refine CallG.same _ (g6) rfl ?_ | refine CallK.pv (g6) rfl rfl ?_
  simp -implicitDefEqProofs
  first | refine CallK.same (g7) rfl rfl ?_ | refine CallQ.same (g7) rfl rfl ?_ | refine CallQG.same _ (g7) rfl ?_ | refine CallG.same _ (g7) rfl ?_ | refine CallK.pv (g7) rfl rfl ?_
  have e2 : ¬ ((l.length : Int) + 2 < (A.length : Int)) := by omega
  simp -implicitDefEqProofs [e1, e2]
  first | refine CallG.off (.bool true) ?_ | (refine CallG.on ?_; first | refine CallK.same (g8) rfl rfl ?_ | refine CallQ.same (g8) rfl rfl ?_ | refine CallQG.same _ (g8) rfl ?_ | refine CallG.same _ (g8) rfl ?_ | refine CallK.pv (g8) rfl rfl ?_)
  simp -implicitDefEqProofs
  intro h1 h2
  subst h1
  subst h2
  by_cases hmn : m = n
  · obtain ⟨q1, q2⟩ := law rfl rfl hmn
    subst hmn
    subst q1
    subst q2
    simp -implicitDefEqProofs
    first | refine CallK.same (g9) rfl rfl ?_ | refine CallQ.same (g9) rfl rfl ?_ | refine CallQG.same _ (g9) rfl ?_ | refine CallG.same _ (g9) rfl ?_ | refine CallK.pv (g9) rfl rfl ?_
    simp -implicitDefEqProofs
    first | refine CallK.same (g10) rfl rfl ?_ | refine CallQ.same (g10) rfl rfl ?_ | refine CallQG.same _ (g10) rfl ?_ | refine CallG.same _ (g10) rfl ?_ | refine CallK.pv (g10) rfl rfl ?_
    simp -implicitDefEqProofs
  · have hmi : ((m : Int) != (n : Int)) = true := by simp; omega
    simp -implicitDefEqProofs [hmi]
    first | refine CallK.same (g9) rfl rfl ?_ | refine CallQ.same (g9) rfl rfl ?_ | refine CallQG.same _ (g9) rfl ?_ | refine CallG.same _ (g9) rfl ?_ | refine CallK.pv (g9) rfl rfl ?_
    simp -implicitDefEqProofs [hmi]
    first | refine CallK.same (g10) rfl rfl ?_ | refine CallQ.same (g10) rfl rfl ?_ | refine CallQG.same _ (g10) rfl ?_ | refine CallG.same _ (g10) rfl ?_ | refine CallK.pv (g10) rfl rfl ?_
    simp -implicitDefEqProofs [hmi]
theorem where_two (six : Bool) (l : List Addr4) (a : Addr4) (h : checkC six l = 0) : whereF six l a = if rightA six a = true then (whereN a l, 0) else (0, 2) := by
  unfold whereF
  cases hr : rightA six a with
  | true => rw [if_neg (by simp [h]), if_pos rfl]
  | false => rw [if_pos (by simp), if_neg (by simp)]
set_option maxRecDepth 8000 in
set_option maxHeartbeats 4000000 in
theorem atomsFiner_spec (six : Bool) (l : List Addr4) (p : Pfx) (a b : Addr4) (hl : wfL l) (hp : p.addr.wf) (ha : a.wf) (hb : b.wf) : FSpec Tryz.prog 12 [.bool six, .im (.sl 2 (l.map Addr4.iv)), p.av, a.av, b.av] [] (.bool true) [] := by
  have g1 := split_spec six l p hl hp
  by_cases hbad : ¬ checkC six l = 0 ∨ ¬ p.six = six ∨ ¬ checkP p = 0
  · have e : splitF six l p = ([], 2) := by unfold splitF; rw [if_pos hbad]
    rw [e] at g1
    refine FSpec.of_flat (q := [(15, .n 28)]) Tryz.func12 (by kernel_rfl) rfl Tryz.ntmps12 Tryz.results12 hP (by kernel_rfl) (by simp) (by first | rfl | simp) ?_
    simp -implicitDefEqProofs
    first | refine CallK.same (lives22_spec) rfl rfl ?_ | refine CallQ.same (lives22_spec) rfl rfl ?_ | refine CallQG.same _ (lives22_spec) rfl ?_ | refine CallG.same _ (lives22_spec) rfl ?_ | refine CallK.pv (lives22_spec) rfl rfl ?_
    simp -implicitDefEqProofs
    first | refine CallK.same (g1) rfl rfl ?_ | refine CallQ.same (g1) rfl rfl ?_ | refine CallQG.same _ (g1) rfl ?_ | refine CallG.same _ (g1) rfl ?_ | refine CallK.pv (g1) rfl rfl ?_
    simp -implicitDefEqProofs
    refine CallG.off (.bool true) ?_
    simp -implicitDefEqProofs
  · have h1 : checkC six l = 0 := Classical.byContradiction fun h => hbad (.inl h)
    have h2 : p.six = six := Classical.byContradiction fun h => hbad (.inr (.inl h))
    have h3 : checkP p = 0 := Classical.byContradiction fun h => hbad (.inr (.inr h))
    have hll := (checkC_len h1).2
    by_cases hlong : 4096 < (sortA (l ++ ofA p)).length
    · have e : splitF six l p = (l, 11) := by unfold splitF; rw [if_neg hbad, if_pos hlong]
      rw [e] at g1
      have g2 := alike_spec l (by omega)
      refine FSpec.of_flat (q := [(15, .n 28)]) Tryz.func12 (by kernel_rfl) rfl Tryz.ntmps12 Tryz.results12 hP (by kernel_rfl) (by simp) (by first | rfl | simp) ?_
      simp -implicitDefEqProofs
      first | refine CallK.same (lives22_spec) rfl rfl ?_ | refine CallQ.same (lives22_spec) rfl rfl ?_ | refine CallQG.same _ (lives22_spec) rfl ?_ | refine CallG.same _ (lives22_spec) rfl ?_ | refine CallK.pv (lives22_spec) rfl rfl ?_
      simp -implicitDefEqProofs
      first | refine CallK.same (g1) rfl rfl ?_ | refine CallQ.same (g1) rfl rfl ?_ | refine CallQG.same _ (g1) rfl ?_ | refine CallG.same _ (g1) rfl ?_ | refine CallK.pv (g1) rfl rfl ?_
      simp -implicitDefEqProofs
      first | refine CallG.off (.bool true) ?_ | (refine CallG.on ?_; first | refine CallK.same (g2) rfl rfl ?_ | refine CallQ.same (g2) rfl rfl ?_ | refine CallQG.same _ (g2) rfl ?_ | refine CallG.same _ (g2) rfl ?_ | refine CallK.pv (g2) rfl rfl ?_)
      simp -implicitDefEqProofs
    · have e : splitF six l p = (sortA (l ++ ofA p), 0) := by unfold splitF; rw [if_neg hbad, if_neg hlong]
      obtain ⟨s1, s2, s3, s4, s5⟩ := splitA_ok hl hp h1 h2 h3 (by omega)
      rw [e] at g1
      have g2 := split_spec six (sortA (l ++ ofA p)) p s1 hp
      rw [s3] at g2
      have g3 := where_spec six l a hl ha
      have g4 := where_spec six l b hl hb
      have g5 := where_spec six (sortA (l ++ ofA p)) a s1 ha
      have g6 := where_spec six (sortA (l ++ ofA p)) b s1 hb
      have g7 := alike_spec (sortA (l ++ ofA p)) (by omega)
      have g8 := checkC_spec six (sortA (l ++ ofA p)) s1
      rw [s2] at g8
      have law : (whereF six l a).2 = 0 → (whereF six l b).2 = 0 → (whereF six (sortA (l ++ ofA p)) a).1 = (whereF six (sortA (l ++ ofA p)) b).1 → (whereF six l a).1 = (whereF six l b).1 ∧ hasN p six a = hasN p six b := by
        rw [where_two six l a h1, where_two six l b h1, where_two six _ a s2, where_two six _ b s2]
        cases hra : rightA six a with
        | false => intro h; cases h
        | true =>
          cases hrb : rightA six b with
          | false => intro _ h; cases h
          | true =>
            intro _ _ hmn
            have hc := where_eq s1 s2 hmn
            exact ⟨where_of fun c hc' => hc c ((s5 c).2 (.inl hc')), hasN_eq hp h3 h2 ha hb hra hrb fun c hc' => hc c ((s5 c).2 (.inr hc'))⟩
      have ea : (whereF six (sortA (l ++ ofA p)) a).2 = (whereF six l a).2 := by
        rw [where_two six l a h1, where_two six _ a s2]; split <;> rfl
      have eb : (whereF six (sortA (l ++ ofA p)) b).2 = (whereF six l b).2 := by
        rw [where_two six l b h1, where_two six _ b s2]; split <;> rfl
      rw [ea] at g5
      rw [eb] at g6
      exact finer_walk six l _ p a b _ _ _ _ _ _ _ _ g1 g2 g3 g4 g5 g6 g7 g8 (hasN_spec p six a hp ha) (hasN_spec p six b hp hb) s4 (by omega) law
end Go.Am

