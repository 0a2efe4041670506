import Derived.Test.YtholjnkcajjiiaaGreatPE3
import Derived.Test.YtholjnkcajjiiaaGreatPE5
set_option linter.unusedVariables false
set_option linter.unusedSimpArgs false
set_option pp.deepTerms false
set_option pp.deepTerms.threshold 40
namespace Go.Am
open Go.Proofs

def keepP (p : Past) (t : Int) : Past := ⟨thenF p t, t, after t p.evs⟩
theorem retB0_spec (p : Past) (now : Net) (w t : Int) (hb : ¬ askT p t = 0) :
    FSpec Tryz.prog 55 [.ptr 0 0, .int .i64 t] [bookO p now w 1, evsO p.evs] (.int .i64 (askT p t)) [bookO p now w 1, evsO p.evs] := by
  have h1 := atB_spec p now w t hb
  generalize askT p t = W at *
  refine FSpec.of_o (q := []) Tryz.func55 (by kernel_rfl) rfl Tryz.ntmps55 Tryz.results55 hP (by kernel_rfl) (by simp) (by first | rfl | simp) ?_
  simp -implicitDefEqProofs
  refine CallO.mk [] [0, 1] h1 (by simp) rfl (by simp) (by simp) (by simp) ?_
  simp -implicitDefEqProofs [hb]
  refine EndO.ret [] [0, 1] (.int .i64 W) (by simp) ?_
  simp -implicitDefEqProofs
set_option maxRecDepth 8000 in
set_option maxHeartbeats 2000000 in
theorem retB1_spec (p : Past) (now : Net) (w t : Int) (hew : ∀ e ∈ p.evs, 0 ≤ e.seq) (hl : p.evs.length ≤ 4096) (hb : askT p t = 0) (hT : thenW p t = 0) :
    FSpec Tryz.prog 55 [.ptr 0 0, .int .i64 t] [bookO p now w 1, evsO p.evs] (.int .i64 0) [bookO (keepP p t) now (weightF (keepP p t)) 2, evsO p.evs, evsO (after t p.evs)] := by
  have h1 := atA_spec p now w t hew hl hb
  rw [hT] at h1
  have h3 := sizeNo_spec (thenF p t)
  have hz := sizeN_bd (thenF p t)
  have hal := after_len t p.evs
  have hw : weightF (keepP p t) = sizeN (thenF p t) + addsE (after t p.evs) := rfl
  have hQ : keepP p t = ⟨thenF p t, t, after t p.evs⟩ := rfl
  generalize weightF (keepP p t) = W at *
  generalize keepP p t = Q at *
  generalize thenF p t = N at *
  generalize after t p.evs = L at *
  generalize sizeN N = z at *
  refine FSpec.of_o (q := []) Tryz.func55 (by kernel_rfl) rfl Tryz.ntmps55 Tryz.results55 hP (by kernel_rfl) (by simp) (by first | rfl | simp) ?_
  simp -implicitDefEqProofs
  refine CallO.mk [] [0, 1] h1 (by simp) rfl (by simp) (by simp) (by simp) ?_
  simp -implicitDefEqProofs
  first | refine CallK.same (h3) rfl rfl ?_ | refine CallQ.same (h3) rfl rfl ?_ | refine CallQG.same _ (h3) rfl ?_ | refine CallG.same _ (h3) rfl ?_ | refine CallK.pv (h3) rfl rfl ?_
  simp -implicitDefEqProofs
  refine LoopK.os (fun k : Nat => [(0, .ptr 0 0), (35, .row 2), (36, .int .i64 L.length), (37, .int .i64 k)])
    (fun k => [bookO ⟨N, t, L⟩ now (z + addsE (L.take k)) 2, evsO p.evs, evsO L])
    (fun k => k ≤ L.length) (fun k => L.length - k) 0 [0, 1, 2] (Nat.zero_le _) (by simp [addsE]) ?_
  intro k hk
  by_cases hlt : k < L.length
  · have e1 : IntKind.i64.wrap (k + 1) = (k + 1 : Nat) := wrap64 (by omega) (by omega)
    have ht := addsE_take L k hlt
    have hn := addsE_len (L.take k)
    rw [List.length_take] at hn
    have e2 : IntKind.i64.wrap (z + (addsE (L.take k) : Int) + 1) = z + (addsE (L.take k) : Int) + 1 := wrap64 (by omega) (by omega)
    obtain ⟨E, hE⟩ : ∃ E, L[k] = E := ⟨_, rfl⟩
    rw [hE] at ht
    have hg := grows_spec E
    simp -implicitDefEqProofs [hlt, hE]
    first | refine CallK.same (hg) rfl rfl ?_ | refine CallQ.same (hg) rfl rfl ?_ | refine CallQG.same _ (hg) rfl ?_ | refine CallG.same _ (hg) rfl ?_ | refine CallK.pv (hg) rfl rfl ?_
    simp -implicitDefEqProofs
    refine ⟨fun h => ?_, fun h1 h2 => ?_⟩
    · rw [if_pos h] at ht
      refine Again.os (k + 1) [0, 1, 2] hlt (by omega) ?_
      simp -implicitDefEqProofs [e1, e2, ht]
      omega
    · rw [if_neg (by simp [h1, h2])] at ht
      refine Again.os (k + 1) [0, 1, 2] hlt (by omega) ?_
      simp -implicitDefEqProofs [e1, ht]
  · have hkk : k = L.length := by omega
    subst hkk
    subst hQ
    simp -implicitDefEqProofs
    refine EndO.ret [] [0, 1, 2] (.int .i64 0) (by simp) ?_
    simp -implicitDefEqProofs [hw]
def retainP (p : Past) (t : Int) : Past × Int := if okP p = false then (past0, 2) else if askT p t = 0 then (keepP p t, 0) else (p, askT p t)
theorem retainPo_spec (p : Past) (t : Int) (hew : ∀ e ∈ p.evs, 0 ≤ e.seq) (hT : okP p = true → askT p t = 0 → thenW p t = 0) : FSpec Tryz.prog 17 [p.av, .int .i64 t] [] (.tup [(retainP p t).1.av, .int .i64 (retainP p t).2]) [] := by
  unfold retainP
  refine FSpec.of_z (q := []) Tryz.func17 (by kernel_rfl) rfl Tryz.ntmps17 Tryz.results17 hP (by kernel_rfl) (by simp) (by first | rfl | simp) ?_
  simp -implicitDefEqProofs
  cases hok : okP p with
  | true =>
    have hl := okP_len hok
    refine CallK.outs [] (openY_spec p hew hok) rfl (by simp) (by simp [AV.flat]) ?_
    simp -implicitDefEqProofs
    by_cases hb : askT p t = 0
    · refine CallO.mk [] [2, 3] (retB1_spec p (nowP p) (weightF p) t hew (by omega) hb (hT hok hb)) (by simp) rfl (by simp) (by simp) (by simp) ?_
      simp -implicitDefEqProofs [hb]
      refine EndZ.ret [4] (.tup [.agg [.im (.sl 4 ((keepP p t).base.seats.map Seat.iv)), .im (.sl 4 ((keepP p t).base.routers.map Router.iv)), .int .i64 (keepP p t).hz, .row 4], .int .i64 0]) (by simp) ?_
      simp -implicitDefEqProofs [keepP]
    · refine CallO.mk [] [2, 3] (retB0_spec p (nowP p) (weightF p) t hb) (by simp) rfl (by simp) (by simp) (by simp) ?_
      simp -implicitDefEqProofs [hb]
      refine EndZ.ret [3] (.tup [.agg [.im (.sl 4 (p.base.seats.map Seat.iv)), .im (.sl 4 (p.base.routers.map Router.iv)), .int .i64 p.hz, .row 3], .int .i64 (askT p t)]) (by simp) ?_
      simp -implicitDefEqProofs
  | false =>
    first | refine CallK.same (openN_spec p hew hok) rfl rfl ?_ | refine CallQ.same (openN_spec p hew hok) rfl rfl ?_ | refine CallQG.same _ (openN_spec p hew hok) rfl ?_ | refine CallG.same _ (openN_spec p hew hok) rfl ?_ | refine CallK.pv (openN_spec p hew hok) rfl rfl ?_
    simp -implicitDefEqProofs
    refine EndZ.ret [] (.tup [.agg [.im (.sc (.slice none 0 0)), .im (.sc (.slice none 0 0)), .int .i64 0, .im (.sc (.slice none 0 0))], .int .i64 2]) (by simp) ?_
    simp [past0]
end Go.Am


set_option linter.unusedVariables false
set_option linter.unusedSimpArgs false
set_option pp.deepTerms false
set_option pp.deepTerms.threshold 40
namespace Go.Am
open Go.Proofs

end Go.Am


set_option linter.unusedVariables false
set_option linter.unusedSimpArgs false
set_option pp.deepTerms false
set_option pp.deepTerms.threshold 40
namespace Go.Proofs
def Tryz.sortInt64_ren : Go.Shelf.Ren := ⟨fun | 5 => 99 | 8 => 142 | 7 => 141 | 19 => 186 | 20 => 187 | 10 => 177 | 11 => 178 | 12 => 179 | 13 => 180 | 14 => 181 | 15 => 182 | 16 => 183 | 17 => 184 | 18 => 185 | 30 => 220 | 31 => 221 | 32 => 222 | 33 => 223 | 34 => 224 | 35 => 219 | 40 => 248 | n => n, fun | 23 => 57 | 25 => 2 | 3 => 3 | 32 => 155 | 22 => 57 | 0 => 0 | 44 => 239 | 46 => 30 | 4 => 4 | 36 => 232 | 35 => 231 | 41 => 128 | 5 => 5 | 9 => 9 | 53 => 277 | 57 => 281 | 63 => 297 | 64 => 298 | n => n, fun | n => n⟩
theorem Tryz.sortInt64 : SlLaysM.n5 Tryz.prog Tryz.sortInt64_ren := {
  mixed := by kernel_rfl,
  f5 := ⟨Tryz.f99.name, by decide, Tryz.func99.trans (congrArg some (by kernel_rfl))⟩,
  f7 := ⟨Tryz.f141.name, by decide, Tryz.func141.trans (congrArg some (by kernel_rfl))⟩,
  f8 := Tryz.func142.trans (congrArg some (by kernel_rfl)),
  f10 := ⟨Tryz.f177.name, by decide, Tryz.func177.trans (congrArg some (by kernel_rfl))⟩,
  f11 := ⟨Tryz.f178.name, by decide, Tryz.func178.trans (congrArg some (by kernel_rfl))⟩,
  f12 := ⟨Tryz.f179.name, by decide, Tryz.func179.trans (congrArg some (by kernel_rfl))⟩,
  f13 := ⟨Tryz.f180.name, by decide, Tryz.func180.trans (congrArg some (by kernel_rfl))⟩,
  f14 := ⟨Tryz.f181.name, by decide, Tryz.func181.trans (congrArg some (by kernel_rfl))⟩,
  f15 := ⟨Tryz.f182.name, by decide, Tryz.func182.trans (congrArg some (by kernel_rfl))⟩,
  f16 := ⟨Tryz.f183.name, by decide, Tryz.func183.trans (congrArg some (by kernel_rfl))⟩,
  f17 := ⟨Tryz.f184.name, by decide, Tryz.func184.trans (congrArg some (by kernel_rfl))⟩,
  f18 := ⟨Tryz.f185.name, by decide, Tryz.func185.trans (congrArg some (by kernel_rfl))⟩,
  f19 := Tryz.func186.trans (congrArg some (by kernel_rfl)),
  f20 := Tryz.func187.trans (congrArg some (by kernel_rfl)),
  f30 := ⟨Tryz.f220.name, by decide, Tryz.func220.trans (congrArg some (by kernel_rfl))⟩,
  f31 := Tryz.func221.trans (congrArg some (by kernel_rfl)),
  f32 := Tryz.func222.trans (congrArg some (by kernel_rfl)),
  f33 := ⟨Tryz.f223.name, by decide, Tryz.func223.trans (congrArg some (by kernel_rfl))⟩,
  f34 := ⟨Tryz.f224.name, by decide, Tryz.func224.trans (congrArg some (by kernel_rfl))⟩,
  f35 := ⟨Tryz.f219.name, by decide, Tryz.func219.trans (congrArg some (by kernel_rfl))⟩,
  f40 := ⟨Tryz.f248.name, by decide, Tryz.func248.trans (congrArg some (by kernel_rfl))⟩,
  t0 := Tryz.underlying0,
  a0 := Tryz.isAgg0,
  z0 := Tryz.sizeOf0,
  v0 := Tryz.zeroValue0,
  t3 := Tryz.underlying3,
  a3 := Tryz.isAgg3,
  z3 := Tryz.sizeOf3,
  v3 := Tryz.zeroValue3,
  t4 := Tryz.underlying4,
  a4 := Tryz.isAgg4,
  z4 := Tryz.sizeOf4,
  v4 := Tryz.zeroValue4,
  t5 := Tryz.underlying5,
  a5 := Tryz.isAgg5,
  z5 := Tryz.sizeOf5,
  v5 := Tryz.zeroValue5,
  t9 := Tryz.underlying9,
  a9 := Tryz.isAgg9,
  z9 := Tryz.sizeOf9,
  v9 := Tryz.zeroValue9,
  t22 := Tryz.underlying57,
  a22 := Tryz.isAgg57,
  z22 := Tryz.sizeOf57,
  v22 := Tryz.zeroValue57,
  t23 := Tryz.underlying57,
  a23 := Tryz.isAgg57,
  z23 := Tryz.sizeOf57,
  v23 := Tryz.zeroValue57,
  t25 := Tryz.underlying2,
  a25 := Tryz.isAgg2,
  z25 := Tryz.sizeOf2,
  v25 := Tryz.zeroValue2,
  t32 := Tryz.underlying155,
  a32 := Tryz.isAgg155,
  z32 := Tryz.sizeOf155,
  v32 := Tryz.zeroValue155,
  t35 := Tryz.underlying231,
  a35 := Tryz.isAgg231,
  z35 := Tryz.sizeOf231,
  v35 := Tryz.zeroValue231,
  t36 := Tryz.underlying232,
  a36 := Tryz.isAgg232,
  z36 := Tryz.sizeOf232,
  v36 := Tryz.zeroValue232,
  t41 := Tryz.underlying128,
  a41 := Tryz.isAgg128,
  z41 := Tryz.sizeOf128,
  v41 := Tryz.zeroValue128,
  t44 := Tryz.underlying239,
  a44 := Tryz.isAgg239,
  z44 := Tryz.sizeOf239,
  v44 := Tryz.zeroValue239,
  t46 := Tryz.underlying30,
  a46 := Tryz.isAgg30,
  z46 := Tryz.sizeOf30,
  v46 := Tryz.zeroValue30,
  t53 := Tryz.underlying277,
  a53 := Tryz.isAgg277,
  z53 := Tryz.sizeOf277,
  v53 := Tryz.zeroValue277,
  t57 := Tryz.underlying281,
  a57 := Tryz.isAgg281,
  z57 := Tryz.sizeOf281,
  v57 := Tryz.zeroValue281,
  t63 := Tryz.underlying297,
  a63 := Tryz.isAgg297,
  z63 := Tryz.sizeOf297,
  v63 := Tryz.zeroValue297,
  t64 := Tryz.underlying298,
  a64 := Tryz.isAgg298,
  z64 := Tryz.sizeOf298,
  v64 := Tryz.zeroValue298 }
end Go.Proofs
namespace Go.Am
open Go.Proofs

theorem sort64_spec (l : List Int) (h : l.length ≤ 1000000000) : FSpec Tryz.prog 99 [.row 0] [.row 2 1 (rowN l)] (.tup []) [.row 2 1 (rowN (sortI l))] :=
  sortInts Tryz.sortInt64 2 l (by omega)
def dedup : List Int → List Int
  | [] => []
  | [x] => [x]
  | x :: y :: l => if x = y then dedup (y :: l) else x :: dedup (y :: l)
theorem dedup_snoc : ∀ (l : List Int) (x y : Int), dedup (l ++ [x, y]) = if x = y then dedup (l ++ [x]) else dedup (l ++ [x]) ++ [y]
  | [], x, y => by simp only [List.nil_append, dedup]; split <;> simp [*]
  | [a], x, y => by
    have := dedup_snoc [] x y
    simp only [List.nil_append, List.cons_append, dedup] at this ⊢
    by_cases h1 : x = y <;> by_cases h2 : a = x <;> simp [h1, h2]
  | a :: b :: l, x, y => by
    have := dedup_snoc (b :: l) x y
    simp only [List.cons_append, dedup] at this ⊢
    rw [this]
    by_cases h1 : x = y <;> by_cases h2 : a = b <;> simp [h1, h2]
theorem dedup_take {l : List Int} {j : Nat} (h : j + 1 < l.length) : dedup (l.take (j + 2)) = if l[j + 1] = l[j] then dedup (l.take (j + 1)) else dedup (l.take (j + 1)) ++ [l[j + 1]] := by
  have a1 : l.take (j + 2) = l.take (j + 1) ++ [l[j + 1]] := by rw [show j + 2 = (j + 1) + 1 from rfl, List.take_add_one, List.getElem?_eq_getElem h]; rfl
  have a2 : l.take (j + 1) = l.take j ++ [l[j]] := by rw [List.take_add_one, List.getElem?_eq_getElem (by omega)]; rfl
  have e1 : l.take (j + 2) = l.take j ++ [l[j], l[j + 1]] := by rw [a1, a2, List.append_assoc]; rfl
  have e2 : l.take (j + 1) = l.take j ++ [l[j]] := by
    rw [List.take_add_one, List.getElem?_eq_getElem (by omega)]
    rfl
  rw [e1, e2, dedup_snoc]
  by_cases hh : l[j] = l[j + 1]
  · rw [if_pos hh, if_pos hh.symm]
  · rw [if_neg hh, if_neg (fun x => hh x.symm)]
theorem dedup_small {l : List Int} (h : l.length < 2) : dedup l = l := by
  match l, h with
  | [], _ => rfl
  | [x], _ => rfl
theorem dedup_len : ∀ l : List Int, (dedup l).length ≤ l.length
  | [] => Nat.le_refl _
  | [x] => Nat.le_refl _
  | x :: y :: l => by
    have := dedup_len (y :: l)
    rw [dedup]
    split
    · simp only [List.length_cons] at *; omega
    · simp only [List.length_cons] at *; omega
@[simp] theorem rowN_len (l : List Int) : (rowN l).length = l.length := by simp [rowN]
theorem rowN_get {l : List Int} {i : Nat} (h : i < l.length) : (rowN l)[i]? = some [.sc (.int .i64 l[i])] := by simp [rowN, h]
@[simp] theorem rowN_getElem (l : List Int) (i : Nat) (h : i < (rowN l).length) : (rowN l)[i] = [.sc (.int .i64 (l[i]'(by simpa using h)))] := by simp [rowN]
/-- What the second loop keeps: `C` now stands where `xs` stood. -/
structure Cmpd (xs C : List Int) (k j : Nat) : Prop where
  len : C.length = xs.length
  k1 : 1 ≤ k
  kj : k + 1 ≤ j
  jl : j ≤ xs.length
  pre : C.take k = dedup (xs.take j)
  suf : ∀ i, j ≤ i + 1 → C[i]? = xs[i]?
theorem Cmpd.get {xs C : List Int} {k j i : Nat} (h : Cmpd xs C k j) (hi : j ≤ i + 1) (hx : i < xs.length) (hc : i < C.length) : C[i] = xs[i] := by
  have := h.suf i hi
  rw [List.getElem?_eq_getElem hx, List.getElem?_eq_getElem hc] at this
  exact Option.some.inj this
theorem Cmpd.skip {xs C : List Int} {k j : Nat} (h : Cmpd xs C k (j + 1)) (hj : j + 1 < xs.length) (he : xs[j + 1] = xs[j]) : Cmpd xs C k (j + 2) := by
  obtain ⟨a1, a2, a3, a4, a5, a6⟩ := h
  refine ⟨a1, a2, by omega, by omega, ?_, fun i hi => a6 i (by omega)⟩
  rw [dedup_take hj, if_pos he, a5]
theorem Cmpd.put {xs C : List Int} {k j : Nat} (h : Cmpd xs C k (j + 1)) (hj : j + 1 < xs.length) (he : ¬ xs[j + 1] = xs[j]) : Cmpd xs (C.set k xs[j + 1]) (k + 1) (j + 2) := by
  obtain ⟨a1, a2, a3, a4, a5, a6⟩ := h
  refine ⟨by simpa using a1, by omega, by omega, by omega, ?_, fun i hi => ?_⟩
  · rw [dedup_take hj, if_neg he, ← a5, List.take_add_one, List.getElem?_set_self (by omega), List.take_set_of_le (Nat.le_refl _)]
    rfl
  · rw [List.getElem?_set_ne (by omega)]
    exact a6 i (by omega)
set_option maxRecDepth 8000 in
set_option maxHeartbeats 2000000 in
theorem compact_spec (l : List Int) (hl : l.length ≤ 1000000000) :
    FSpec Tryz.prog 100 [.row 0] [.row 2 1 (rowN l)] (.im (.sl 1 (rowN (dedup l)))) [.gone] := by
  refine FSpec.of_o (q := [(6, .n 9), (11, .n 9)]) Tryz.func100 (by kernel_rfl) rfl Tryz.ntmps100 Tryz.results100 hP (by kernel_rfl) (by simp) (by first | rfl | simp) ?_
  simp -implicitDefEqProofs
  refine ⟨fun h => ?_, fun h2 => ?_⟩
  · refine EndO.ret [0] [0] (.row 0) (by simp) ?_
    simp -implicitDefEqProofs [dedup_small (show l.length < 2 by omega)]
  refine LoopK.os (fun k : Nat => [(0, .row 0), (3, .int .i64 k)])
    (fun _ => [.row 2 1 (rowN l)])
    (fun k => 1 ≤ k ∧ k ≤ l.length ∧ dedup (l.take k) = l.take k) (fun k => l.length - k) 1 [0] ⟨Nat.le_refl _, by omega, dedup_small (by simp; omega)⟩ (by simp) ?_
  rintro k ⟨hk1, hk, hR⟩
  by_cases hlt : k < l.length
  · obtain ⟨j, hj⟩ : ∃ j, k = j + 1 := ⟨k - 1, by omega⟩
    have e1 : IntKind.i64.wrap ((k : Int) - 1) = (j : Nat) := by rw [wrap64 (by omega) (by omega)]; omega
    have e2 : IntKind.i64.wrap ((k : Int) + 1) = (k + 1 : Nat) := wrap64 (by omega) (by omega)
    have hjl : j < l.length := by omega
    have hd : dedup (l.take (k + 1)) = if l[k] = l[j] then dedup (l.take k) else dedup (l.take k) ++ [l[k]] := by
      subst hj; exact dedup_take hlt
    simp -implicitDefEqProofs [hlt, hjl, e1, e2]
    refine ⟨fun heq => ⟨hk, ?_⟩, fun hne => ?_⟩
    · rw [if_pos heq] at hd
      have hd' := hd
      clear e1 e2 hd
      refine LoopK.os (fun g : Nat × Nat × List Int => [(0, .row 0), (3, .int .i64 g.1), (4, .sub 0 1 k (l.length - k)), (5, .int .i64 g.2.1)])
        (fun g => [.row 2 1 (rowN g.2.2)])
        (fun g => Cmpd l g.2.2 g.1 (k + g.2.1) ∧ 1 ≤ g.2.1) (fun g => l.length - (k + g.2.1)) (k, 1, l) [0] ⟨⟨rfl, hk1, Nat.le_refl _, hlt, by rw [hd', hR], fun i _ => rfl⟩, Nat.le_refl _⟩ (by simp) ?_
      rintro ⟨k', k2, C⟩ ⟨hC, hk2⟩
      simp only at hC hk2
      have c0 := hC.len
      have c1 := hC.k1
      have c2 := hC.kj
      have c3 := hC.jl
      by_cases hl2 : k2 < l.length - k
      · obtain ⟨i2, hi2⟩ : ∃ i2, k2 = i2 + 1 := ⟨k2 - 1, by omega⟩
        have e1 : IntKind.i64.wrap ((k2 : Int) - 1) = (i2 : Nat) := by rw [wrap64 (by omega) (by omega)]; omega
        have e2 : IntKind.i64.wrap ((k2 : Int) + 1) = (k2 + 1 : Nat) := wrap64 (by omega) (by omega)
        have e3 : IntKind.i64.wrap ((k' : Int) + 1) = (k' + 1 : Nat) := wrap64 (by omega) (by omega)
        have b1 : k + k2 < C.length := by omega
        have b2 : k + i2 < C.length := by omega
        have b3 : i2 < l.length - k := by omega
        have b4 : k' < C.length := by omega
        simp -implicitDefEqProofs [hl2, e1, e2, e3, b1, b2, b3, b4]
        have g1 := hC.get (i := k + k2) (by omega) (by omega) b1
        have g2 := hC.get (i := k + i2) (by omega) (by omega) b2
        have hmod := mod_set (fun x : Int => [IV.sc (.int .i64 x)]) C C[k + k2] k' (fun x => IV.sc (.int .i64 C[k + k2]) :: x.tail) (fun x => rfl)
        subst hi2
        refine ⟨by omega, fun hne => ⟨by omega, ?_⟩, fun he => ?_⟩
        · refine Again.os (k' + 1, i2 + 1 + 1, C.set k' C[k + (i2 + 1)]) [0] ⟨?_, by show 1 ≤ i2 + 1 + 1; omega⟩ (by show l.length - (k + (i2 + 1 + 1)) < l.length - (k + (i2 + 1)); omega) ?_
          · rw [g1]
            exact Cmpd.put (j := k + i2) hC (by omega) (by rw [← g2]; exact fun h => hne (g1.trans h))
          · show EntO _ _ _ _ _ _ _
            simp -implicitDefEqProofs [e2, e3]
            exact hmod
        · refine Again.os (k', i2 + 1 + 1, C) [0] ⟨?_, by show 1 ≤ i2 + 1 + 1; omega⟩ (by show l.length - (k + (i2 + 1 + 1)) < l.length - (k + (i2 + 1)); omega) ?_
          · exact Cmpd.skip (j := k + i2) hC (by omega) (by rw [← g2, ← he]; exact g1.symm)
          · simp -implicitDefEqProofs [e2]
      · have hkl : k + k2 = l.length := by omega
        have hpre := hC.pre
        rw [hkl, List.take_length] at hpre
        simp -implicitDefEqProofs [hl2]
        refine ⟨by omega, by omega, .inr ⟨by omega, ?_⟩⟩
        refine EndO.ret [1] [0] (.row 1) (by simp) ?_
        have ht : List.take k' (List.take k' (rowN C) ++ (List.replicate (C.length - k') [IV.sc (.int .i64 0)] ++ List.drop (k' + (C.length - k')) (rowN C))) = rowN (dedup l) := by
          rw [List.take_append_of_le_length (by simp; omega), List.take_take, Nat.min_self, ← hpre]
          simp [rowN]
        simp -implicitDefEqProofs [ht]
    · rw [if_neg hne, hR] at hd
      have ht : l.take k ++ [l[k]] = l.take (k + 1) := by rw [List.take_add_one, List.getElem?_eq_getElem hlt]; rfl
      refine Again.os (k + 1) [0] ⟨by omega, hlt, by rw [hd, ht]⟩ (by omega) ?_
      simp -implicitDefEqProofs [e2]
  · have : k = l.length := by omega
    subst this
    rw [List.take_length] at hR
    simp -implicitDefEqProofs
    refine EndO.ret [0] [0] (.row 0) (by simp) ?_
    simp -implicitDefEqProofs [hR]
end Go.Am


set_option linter.unusedVariables false
set_option linter.unusedSimpArgs false
set_option pp.deepTerms false
set_option pp.deepTerms.threshold 40
namespace Go.Am
open Go.Proofs

theorem dedup_mem : ∀ (l : List Int) (r : Int), r ∈ dedup l ↔ r ∈ l
  | [], r => Iff.rfl
  | [x], r => Iff.rfl
  | x :: y :: l, r => by
    have ih := dedup_mem (y :: l) r
    rw [dedup]
    split
    · rename_i h
      subst h
      rw [ih]
      simp
    · rw [List.mem_cons, ih, List.mem_cons (a := r) (b := x)]
theorem dedup_sorted : ∀ {l : List Int}, l.Pairwise (· ≤ ·) → (dedup l).Pairwise (· < ·)
  | [], _ => List.Pairwise.nil
  | [x], _ => List.pairwise_singleton _ _
  | x :: y :: l, h => by
    have h1 := List.pairwise_cons.1 h
    have h2 := List.pairwise_cons.1 h1.2
    rw [dedup]
    split
    · exact dedup_sorted h1.2
    · rename_i hne
      refine List.pairwise_cons.2 ⟨fun z hz => ?_, dedup_sorted h1.2⟩
      rw [dedup_mem] at hz
      have hxy := h1.1 y List.mem_cons_self
      rcases List.mem_cons.1 hz with rfl | hz
      · omega
      · have := h2.1 z hz
        omega
/-- When something happened within a window. -/
def happT (l : List Ev) (a b : Int) : List Int := (l.filter fun e => decide (a < e.time) && decide (e.time ≤ b)).map Ev.time
def timesF (l : List Ev) (a b : Int) : List Int := dedup (sortI (happT l a b))
theorem timesF_sorted (l : List Ev) (a b : Int) : (timesF l a b).Pairwise (· < ·) := dedup_sorted (sortI_sorted _)
theorem timesF_mem (l : List Ev) (a b r : Int) : r ∈ timesF l a b ↔ r ∈ happT l a b := by
  unfold timesF
  rw [dedup_mem]
  exact (sortI_perm _).mem_iff
theorem happT_take (l : List Ev) (a b : Int) (k : Nat) (h : k < l.length) : happT (l.take (k + 1)) a b = if a < l[k].time ∧ l[k].time ≤ b then happT (l.take k) a b ++ [l[k].time] else happT (l.take k) a b := by
  unfold happT
  rw [filter_take _ _ _ h]
  by_cases hh : a < l[k].time ∧ l[k].time ≤ b
  · rw [if_pos hh, if_pos (by simp [hh]), List.map_append]
    rfl
  · rw [if_neg hh, if_neg (by simp only [Bool.and_eq_true, decide_eq_true_eq]; exact hh)]
theorem happT_len (l : List Ev) (a b : Int) : (happT l a b).length ≤ l.length := by
  unfold happT
  rw [List.length_map]
  exact List.length_filter_le _ _
theorem rowN_app (l : List Int) (x : Int) : rowN (l ++ [x]) = rowN l ++ [[.sc (.int .i64 x)]] := by simp [rowN]
set_option maxRecDepth 8000 in
set_option maxHeartbeats 2000000 in
theorem timesB_spec (p : Past) (now : Net) (w a b : Int) (hl : p.evs.length ≤ 4096) :
    FSpec Tryz.prog 61 [.ptr 0 0, .agg [.int .i64 a, .int .i64 b]] [bookO p now w 1, evsO p.evs] (.im (.sl 1 (rowN (timesF p.evs a b)))) [bookO p now w 1, evsO p.evs] := by
  have hsl := sort64_spec (happT p.evs a b) (by have := happT_len p.evs a b; omega)
  have hcl := compact_spec (sortI (happT p.evs a b)) (by rw [(sortI_perm _).length_eq]; have := happT_len p.evs a b; omega)
  unfold timesF
  refine FSpec.of_o (q := []) Tryz.func61 (by kernel_rfl) rfl Tryz.ntmps61 Tryz.results61 hP (by kernel_rfl) (by simp) (by first | rfl | simp) ?_
  simp -implicitDefEqProofs
  refine LoopK.nil (.sl 5 2 1) ?_
  simp -implicitDefEqProofs
  refine LoopK.os (fun k : Nat => [(3, .ptr 2 0), (5, .row 3), (12, .row 1), (13, .int .i64 p.evs.length), (14, .int .i64 k)])
    (fun k => [bookO p now w 1, evsO p.evs, .box 53 [.int .i64 a, .int .i64 b], .row 2 1 (rowN (happT (p.evs.take k) a b))])
    (fun k => k ≤ p.evs.length) (fun k => p.evs.length - k) 0 [0, 1, 2, 3] (Nat.zero_le _) (by simp [happT, rowN]) ?_
  intro k hk
  by_cases hlt : k < p.evs.length
  · have e1 : IntKind.i64.wrap (k + 1) = (k + 1 : Nat) := wrap64 (by omega) (by omega)
    have g1 := happT_take p.evs a b k hlt
    have b1 := happT_len (p.evs.take k) a b
    rw [List.length_take] at b1
    obtain ⟨E, hE⟩ : ∃ E, p.evs[k] = E := ⟨_, rfl⟩
    rw [hE] at g1
    simp -implicitDefEqProofs [hlt, hE]
    refine ⟨fun h1 h2 => ⟨⟨by omega, by unfold maxLen; omega⟩, ?_⟩, fun h => ?_⟩
    · rw [if_pos ⟨h1, h2⟩] at g1
      refine Again.os (k + 1) [0, 1, 2, 6] hlt (by omega) ?_
      simp -implicitDefEqProofs [e1, g1, rowN_app]
    · rw [if_neg (by intro hh; have := h hh.1; omega)] at g1
      refine Again.os (k + 1) [0, 1, 2, 3] hlt (by omega) ?_
      simp -implicitDefEqProofs [e1, g1]
  · have hkk : k = p.evs.length := by omega
    subst hkk
    simp -implicitDefEqProofs
    refine CallO.mk [] [3] hsl (by simp) rfl (by simp) (by simp) (by simp) ?_
    simp -implicitDefEqProofs
    refine CallO.mk [] [3] hcl (by simp) rfl (by simp) (by simp) (by simp) ?_
    simp -implicitDefEqProofs
    refine EndO.ret [] [0, 1] (.im (.sl 1 (rowN (dedup (sortI (happT p.evs a b)))))) (by simp) ?_
    simp -implicitDefEqProofs
end Go.Am


set_option linter.unusedVariables false
set_option linter.unusedSimpArgs false
set_option pp.deepTerms false
set_option pp.deepTerms.threshold 40
namespace Go.Am
open Go.Proofs

abbrev Ivl := Int × Int
@[simp] def ivI (x : Ivl) : List IV := [.sc (.int .i64 x.1), .sc (.int .i64 x.2)]
theorem nan64_spec (n : Int) : FSpec Tryz.prog 219 [.int .i64 n] [] (.bool false) [] := by
  refine FSpec.of_flat (q := []) Tryz.func219 (by kernel_rfl) rfl Tryz.ntmps219 Tryz.results219 hP (by kernel_rfl) (by simp) (by first | rfl | simp) ?_
  simp
theorem cmp64_spec (m n : Int) : FSpec Tryz.prog 174 [.int .i64 m, .int .i64 n] [] (.int .i64 (cmpI m n)) [] := by
  refine FSpec.of_flat (q := []) Tryz.func174 (by kernel_rfl) rfl Tryz.ntmps174 Tryz.results174 hP (by kernel_rfl) (by simp) (by first | rfl | simp) ?_
  simp
  refine CallK.same (nan64_spec _) rfl rfl ?_
  simp
  refine CallK.same (nan64_spec _) rfl rfl ?_
  simp [cmpI]
  refine ⟨fun h h' => by omega, fun h => ⟨fun h' => ?_, fun h' => ?_⟩⟩
  all_goals (repeat' split) <;> omega
theorem timesI_spec : FSpec Tryz.prog 138 [] [] (.agg [.int .i64 0, .int .i64 1099511627776, .fn 174 [], .fn 175 [], .fn 176 []]) [] := by
  refine FSpec.of_flat (q := []) Tryz.func138 (by kernel_rfl) rfl Tryz.ntmps138 Tryz.results138 hP (by kernel_rfl) (by simp) (by first | rfl | simp) ?_
  simp
theorem nextI_spec (t : Int) : FSpec Tryz.prog 175 [.int .i64 t] [] (.int .i64 (IntKind.i64.wrap (t + 1))) [] := by
  refine FSpec.of_flat (q := []) Tryz.func175 (by kernel_rfl) rfl Tryz.ntmps175 Tryz.results175 hP (by kernel_rfl) (by simp) (by first | rfl | simp) ?_
  simp
def zs2 (n : Nat) : List (List IV) := List.replicate n [.sc (.int .i64 0), .sc (.int .i64 0)]
theorem runsI_spec (l : List Ivl) (hl : l.length ≤ 4096) : FSpec Tryz.prog 140 [.im (.sl 2 (l.map ivI))] [] (.im (.sl 2 (l.map ivI))) [] := by
  refine FSpec.of_z (q := []) Tryz.func140 (by kernel_rfl) rfl Tryz.ntmps140 Tryz.results140 hP (by kernel_rfl) (by simp) (by first | rfl | simp) ?_
  simp -implicitDefEqProofs
  refine ⟨⟨by omega, by unfold maxLen; omega⟩, ?_⟩
  have hput : ∀ k, (h : k < l.length) → (((l.take k).map ivI ++ zs2 (l.length - k)).modify k fun x => ivI l[k] ++ x.drop 2) = (l.take (k + 1)).map ivI ++ zs2 (l.length - (k + 1)) := by
    intro k h
    have hk : ((l.take k).map ivI).length = k := by simp; omega
    obtain ⟨r, hr⟩ : ∃ r, l.length - k = r + 1 := ⟨l.length - k - 1, by omega⟩
    have hr' : l.length - (k + 1) = r := by omega
    have hm := modL ((l.take k).map ivI) [.sc (.int .i64 0), .sc (.int .i64 0)] (zs2 r) (fun x => ivI l[k] ++ x.drop 2)
    rw [hk] at hm
    rw [hr, hr', List.take_add_one, List.getElem?_eq_getElem h]
    unfold zs2 at *
    rw [List.replicate_succ, hm]
    show _ = List.map ivI (l.take k ++ [l[k]]) ++ _
    rw [List.map_append, List.append_assoc]
    rfl
  refine LoopK.os (fun k : Nat => [(3, .row 0), (9, .im (.sl 2 (l.map ivI))), (10, .int .i64 l.length), (11, .int .i64 k)])
    (fun k => [.row 229 2 ((l.take k).map ivI ++ zs2 (l.length - k))])
    (fun k => k ≤ l.length) (fun k => l.length - k) 0 [0] (Nat.zero_le _) (by simp [zs2]) ?_
  intro k hk
  by_cases hlt : k < l.length
  · have e1 : IntKind.i64.wrap (k + 1) = (k + 1 : Nat) := wrap64 (by omega) (by omega)
    have hp := hput k hlt
    obtain ⟨E, hE⟩ : ∃ E, l[k] = E := ⟨_, rfl⟩
    have hg : (l.map ivI)[k]? = some [.sc (.int .i64 E.1), .sc (.int .i64 E.2)] := by simp [hlt, hE, ivI]
    have hkl : k < k + (l.length - k) := by omega
    rw [hE] at hp
    simp -implicitDefEqProofs [hlt, hE, zs2]
    refine ⟨by omega, by omega, ?_⟩
    refine Again.os (k + 1) [0] hlt (by omega) ?_
    simp -implicitDefEqProofs [e1]
    simpa [zs2] using hp
  · have hkk : k = l.length := by omega
    subst hkk
    simp -implicitDefEqProofs
    refine EndZ.ret [0] (.row 0) (by simp) ?_
    simp -implicitDefEqProofs [zs2]
theorem cmpI_pos (a b : Int) : (0 < cmpI a b) = (b < a) := by
  unfold cmpI
  apply propext
  repeat' split
  all_goals omega
theorem cmpI_nn (a b : Int) : (0 ≤ cmpI a b) = (b ≤ a) := by
  unfold cmpI
  apply propext
  repeat' split
  all_goals omega
@[simp] def fieldI : AV := .agg [.int .i64 0, .int .i64 1099511627776, .fn 174 [], .fn 175 [], .fn 176 []]
def aheadI (pv : Option Int) (x : Ivl) : Bool := match pv with
  | none => true
  | some q => decide (¬ q = 1099511627776) && decide (q + 1 < x.1)
def soundI : List Ivl → Option Int → Bool
  | [], _ => true
  | x :: l, pv => (decide (0 ≤ x.1) && decide (x.1 ≤ x.2) && decide (x.2 ≤ 1099511627776)) && aheadI pv x && soundI l (some x.2)
def prevI (l : List Ivl) : Nat → Option Int
  | 0 => none
  | k + 1 => (l[k]?).map Prod.snd
set_option maxRecDepth 8000 in
set_option maxHeartbeats 2000000 in
theorem soundI_spec (l : List Ivl) (hl : l.length ≤ 1000000000) : FSpec Tryz.prog 139 [fieldI, .im (.sl 2 (l.map ivI))] [] (.bool (soundI l none)) [] := by
  refine FSpec.of_flat (q := [(6, .n 26)]) Tryz.func139 (by kernel_rfl) rfl Tryz.ntmps139 Tryz.results139 hP (by kernel_rfl) (by simp) (by first | rfl | simp) ?_
  simp -implicitDefEqProofs
  refine LoopK.os (fun k : Nat => [(1, .im (.sl 2 (l.map ivI))), (2, .ptr 0 0), (7, .im (.sl 2 (l.map ivI))), (8, .int .i64 l.length), (9, .int .i64 k)])
    (fun _ => [.box 192 [.int .i64 0, .int .i64 1099511627776, .fn 174 [], .fn 175 [], .fn 176 []]])
    (fun k => k ≤ l.length ∧ (∀ q, prevI l k = some q → 0 ≤ q ∧ q ≤ 1099511627776) ∧ soundI (l.drop k) (prevI l k) = soundI l none) (fun k => l.length - k) 0 [0] ⟨Nat.zero_le _, by simp [prevI], by simp [prevI]⟩ (by simp) ?_
  rintro k ⟨hk, hq, hR⟩
  by_cases hlt : k < l.length
  · have e1 : IntKind.i64.wrap (k + 1) = (k + 1 : Nat) := wrap64 (by omega) (by omega)
    obtain ⟨E, hE⟩ : ∃ E, l[k] = E := ⟨_, rfl⟩
    have hg : (l.map ivI)[k]? = some [.sc (.int .i64 E.1), .sc (.int .i64 E.2)] := by simp [hlt, hE, ivI]
    have hc1 := cmp64_spec 0 E.1
    have hc2 := cmp64_spec E.1 E.2
    have hc3 := cmp64_spec E.2 1099511627776
    rw [List.drop_eq_getElem_cons hlt, hE, soundI] at hR
    obtain ⟨V, hV⟩ : ∃ V, l[k - 1] = V := ⟨_, rfl⟩
    have hV' : l[k - 1]? = some V := by rw [List.getElem?_eq_getElem (by omega), hV]
    have e0 : (IntKind.i64.wrap ((k : Int) - 1)).toNat = k - 1 := by rw [wrap64 (by omega) (by omega)]; omega
    have e3 : 0 < k → 0 ≤ IntKind.i64.wrap ((k : Int) - 1) ∧ IntKind.i64.wrap ((k : Int) - 1) < l.length := fun h => by rw [wrap64 (by omega) (by omega)]; omega
    have hn := nextI_spec V.2
    have hc4 := cmp64_spec (IntKind.i64.wrap (V.2 + 1)) E.1
    simp -implicitDefEqProofs [hlt, hE]
    first | refine CallK.same (hc1) rfl rfl ?_ | refine CallQ.same (hc1) rfl rfl ?_ | refine CallQG.same _ (hc1) rfl ?_ | refine CallG.same _ (hc1) rfl ?_ | refine CallK.pv (hc1) rfl rfl ?_
    simp -implicitDefEqProofs
    first | refine CallK.same (hc2) rfl rfl ?_ | refine CallQ.same (hc2) rfl rfl ?_ | refine CallQG.same _ (hc2) rfl ?_ | refine CallG.same _ (hc2) rfl ?_ | refine CallK.pv (hc2) rfl rfl ?_
    simp -implicitDefEqProofs
    first | refine CallK.same (hc3) rfl rfl ?_ | refine CallQ.same (hc3) rfl rfl ?_ | refine CallQG.same _ (hc3) rfl ?_ | refine CallG.same _ (hc3) rfl ?_ | refine CallK.pv (hc3) rfl rfl ?_
    simp -implicitDefEqProofs [cmpI_pos, cmpI_nn, e0, hV', hV]
    refine ⟨fun h => ?_, fun d1 d2 d3 => ?_⟩
    · rw [← hR]
      simp
      intro h1 h2 h3
      omega
    refine ⟨e3, ?_⟩
    refine ⟨fun a b => e3 a, ?_⟩
    first | refine CallK.same (hn) rfl rfl ?_ | refine CallQ.same (hn) rfl rfl ?_ | refine CallQG.same _ (hn) rfl ?_ | refine CallG.same _ (hn) rfl ?_ | refine CallK.pv (hn) rfl rfl ?_
    simp -implicitDefEqProofs
    first | refine CallK.same (hc4) rfl rfl ?_ | refine CallQ.same (hc4) rfl rfl ?_ | refine CallQG.same _ (hc4) rfl ?_ | refine CallG.same _ (hc4) rfl ?_ | refine CallK.pv (hc4) rfl rfl ?_
    simp -implicitDefEqProofs [cmpI_nn]
    have hA0 : k = 0 → aheadI (prevI l k) E = true := by intro h; subst h; rfl
    have hA1 : 0 < k → prevI l k = some V.2 := by
      intro h
      obtain ⟨i, rfl⟩ : ∃ i, k = i + 1 := ⟨k - 1, by omega⟩
      rw [show i + 1 - 1 = i from rfl] at hV'
      rw [prevI, hV']
      rfl
    have hA : 0 < k → aheadI (prevI l k) E = (decide (¬ V.2 = 1099511627776) && decide (V.2 + 1 < E.1)) := by intro h; rw [hA1 h]; rfl
    have hw : 0 < k → IntKind.i64.wrap (V.2 + 1) = V.2 + 1 := by
      intro h
      have := hq V.2 (hA1 h)
      exact wrap64 (by omega) (by omega)
    have hd : (decide (0 ≤ E.1) && decide (E.1 ≤ E.2) && decide (E.2 ≤ 1099511627776)) = true := by simp [d1, d2, d3]
    rw [hd, Bool.true_and] at hR
    refine ⟨fun h => by cases (V.snd == 1099511627776) <;> simp [impB, h], fun h h' => ?_, fun h => ?_⟩
    · rw [← hR, hA h]
      rw [hw h] at h'
      simp
      intro h1 h2
      omega
    · have ha : aheadI (prevI l k) E = true := by
        rcases Nat.eq_zero_or_pos k with h0 | h0
        · exact hA0 h0
        · have := h h0
          rw [hw h0] at this
          rw [hA h0]
          simp [this]
      rw [ha, Bool.true_and] at hR
      refine Again.os (k + 1) [0] ⟨hlt, ?_, ?_⟩ (by omega) ?_
      · intro q hq'
        simp only [prevI, List.getElem?_eq_getElem hlt, hE, Option.map_some, Option.some.injEq] at hq'
        omega
      · simp only [prevI, List.getElem?_eq_getElem hlt, hE, Option.map_some]
        exact hR
      · simp -implicitDefEqProofs [e1]
  · have hkk : k = l.length := by omega
    subst hkk
    rw [List.drop_length, soundI] at hR
    simp -implicitDefEqProofs [← hR]
def checkI (l : List Ivl) : Int := if 1024 < l.length ∨ soundI l none = false then 2 else 0
theorem checkI_spec (l : List Ivl) : FSpec Tryz.prog 98 [.im (.sl 2 (l.map ivI))] [] (.int .i64 (checkI l)) [] := by
  unfold checkI
  by_cases h : 1024 < l.length
  · have h' : 1024 < (l.length : Int) := by omega
    rw [if_pos (.inl h)]
    refine FSpec.of_flat (q := []) Tryz.func98 (by kernel_rfl) rfl Tryz.ntmps98 Tryz.results98 hP (by kernel_rfl) (by simp) (by first | rfl | simp) ?_
    simp -implicitDefEqProofs [h']
    refine CallG.off (.int .i64 0) ?_
    simp -implicitDefEqProofs
    refine CallG.off (.int .i64 0) ?_
    simp -implicitDefEqProofs
    refine CallG.off (.int .i64 0) ?_
    simp -implicitDefEqProofs
  · have h' : ¬ 1024 < (l.length : Int) := by omega
    have h1 := timesI_spec
    have h2 := runsI_spec l (by omega)
    have h3 := soundI_spec l (by omega)
    have h4 : (1024 < l.length ∨ soundI l none = false) ↔ soundI l none = false := by simp [h]
    simp only [h4]
    refine FSpec.of_flat (q := []) Tryz.func98 (by kernel_rfl) rfl Tryz.ntmps98 Tryz.results98 hP (by kernel_rfl) (by simp) (by first | rfl | simp) ?_
    simp -implicitDefEqProofs [h']
    refine CallG.on ?_
    first | refine CallK.same (h1) rfl rfl ?_ | refine CallQ.same (h1) rfl rfl ?_ | refine CallQG.same _ (h1) rfl ?_ | refine CallG.same _ (h1) rfl ?_ | refine CallK.pv (h1) rfl rfl ?_
    simp -implicitDefEqProofs
    refine CallG.on ?_
    first | refine CallK.same (h2) rfl rfl ?_ | refine CallQ.same (h2) rfl rfl ?_ | refine CallQG.same _ (h2) rfl ?_ | refine CallG.same _ (h2) rfl ?_ | refine CallK.pv (h2) rfl rfl ?_
    simp -implicitDefEqProofs
    refine CallG.on ?_
    first | refine CallK.same (h3) rfl rfl ?_ | refine CallQ.same (h3) rfl rfl ?_ | refine CallQG.same _ (h3) rfl ?_ | refine CallG.same _ (h3) rfl ?_ | refine CallK.pv (h3) rfl rfl ?_
    simp -implicitDefEqProofs
end Go.Am


set_option linter.unusedVariables false
set_option linter.unusedSimpArgs false
set_option pp.deepTerms false
set_option pp.deepTerms.threshold 40
namespace Go.Am
open Go.Proofs

def oneI (a b : Int) : Bool := decide (0 ≤ a) && decide (a ≤ b) && decide (b ≤ 1099511627776)
def winW (p : Past) (a b : Int) : Int := if oneI a b = false then 1 else if a < p.hz then 15 else 0
theorem window_spec (p : Past) (a b : Int) : FSpec Tryz.prog 60 [p.av, .agg [.int .i64 a, .int .i64 b]] [] (.int .i64 (winW p a b)) [] := by
  have h1 := checkI_spec [(a, b)]
  have hx : checkI [(a, b)] = if oneI a b = false then 2 else 0 := by
    unfold checkI oneI
    simp [soundI, aheadI]
  rw [hx] at h1
  unfold winW
  generalize oneI a b = O at *
  refine FSpec.of_flat (q := []) Tryz.func60 (by kernel_rfl) rfl Tryz.ntmps60 Tryz.results60 hP (by kernel_rfl) (by simp) (by first | rfl | simp) ?_
  simp -implicitDefEqProofs
  refine CallK.fz [2] h1 rfl (by simp) rfl ?_
  cases O with
  | false => simp -implicitDefEqProofs
  | true =>
    simp -implicitDefEqProofs
def timesW (p : Past) (a b : Int) : Int := if okP p = false then 2 else winW p a b
theorem timesPo_spec (p : Past) (a b : Int) (hew : ∀ e ∈ p.evs, 0 ≤ e.seq) : FSpec Tryz.prog 31 [p.av, .agg [.int .i64 a, .int .i64 b]] []
    (.tup [.im (.sl 1 (rowN (if timesW p a b = 0 then timesF p.evs a b else []))), .int .i64 (timesW p a b)]) [] := by
  have h1 := window_spec p a b
  refine FSpec.of_z (q := []) Tryz.func31 (by kernel_rfl) rfl Tryz.ntmps31 Tryz.results31 hP (by kernel_rfl) (by simp) (by first | rfl | simp) ?_
  simp -implicitDefEqProofs
  cases hok : okP p with
  | true =>
    have hl := okP_len hok
    have hW : timesW p a b = winW p a b := by unfold timesW; rw [if_neg (by simp [hok])]
    rw [hW]
    have h2 := timesB_spec p (nowP p) (weightF p) a b (by omega)
    generalize winW p a b = W at *
    refine CallK.outs [] (openY_spec p hew hok) rfl (by simp) (by simp [AV.flat]) ?_
    simp -implicitDefEqProofs
    first | refine CallK.same (h1) rfl rfl ?_ | refine CallQ.same (h1) rfl rfl ?_ | refine CallQG.same _ (h1) rfl ?_ | refine CallG.same _ (h1) rfl ?_ | refine CallK.pv (h1) rfl rfl ?_
    simp -implicitDefEqProofs
    refine ⟨fun h => ?_, fun h => ?_⟩
    · refine EndZ.ret [] (.tup [.im (.sc (.slice none 0 0)), .int .i64 W]) (by simp) ?_
      simp [h, rowN]
    · subst h
      refine CallO.mk [] [2, 3] h2 (by simp) rfl (by simp) (by simp) (by simp) ?_
      simp -implicitDefEqProofs
      refine EndZ.ret [] (.tup [.im (.sl 1 (rowN (timesF p.evs a b))), .int .i64 0]) (by simp) (by simp)
  | false =>
    have hW : timesW p a b = 2 := by unfold timesW; rw [if_pos hok]
    rw [hW]
    first | refine CallK.same (openN_spec p hew hok) rfl rfl ?_ | refine CallQ.same (openN_spec p hew hok) rfl rfl ?_ | refine CallQG.same _ (openN_spec p hew hok) rfl ?_ | refine CallG.same _ (openN_spec p hew hok) rfl ?_ | refine CallK.pv (openN_spec p hew hok) rfl rfl ?_
    simp -implicitDefEqProofs
    refine EndZ.ret [] (.tup [.im (.sc (.slice none 0 0)), .int .i64 2]) (by simp) ?_
    simp [rowN]
end Go.Am


set_option linter.unusedVariables false
set_option linter.unusedSimpArgs false
set_option pp.deepTerms false
set_option pp.deepTerms.threshold 40
namespace Go.Am
open Go.Proofs

def Past.wf (p : Past) : Prop := p.base.wf ∧ ∀ e ∈ p.evs, 0 ≤ e.seq ∧ e.pfx.addr.wf
theorem allN_ok {n : Net} {l : List Ev} {hz : Int} (h : (allN n l hz).2.2 = 0) : netOk n = true := by
  cases hn : netOk n with
  | true => rfl
  | false => unfold allN at h; rw [if_pos hn] at h; cases h
end Go.Am


set_option linter.unusedVariables false
set_option linter.unusedSimpArgs false
set_option pp.deepTerms false
set_option pp.deepTerms.threshold 40
namespace Go.Am
open Go.Proofs

end Go.Am


set_option linter.unusedVariables false
set_option linter.unusedSimpArgs false
set_option pp.deepTerms false
set_option pp.deepTerms.threshold 40
namespace Go.Am
open Go.Proofs

theorem find_put {α : Type} (key : α → Int) (l : List α) (s : α) (r : Int) :
    (l.filter (fun a => decide (key a < key s)) ++ [s] ++ l.filter (fun a => decide (key s < key a))).find? (fun a => decide (key a = r)) = if r = key s then some s else l.find? fun a => decide (key a = r) := by
  rw [List.find?_append, List.find?_append, List.find?_filter, List.find?_filter]
  by_cases h : r = key s
  · subst h
    have h1 : (l.find? fun a => decide (decide (key a < key s) = true ∧ decide (key a = key s) = true)) = none := by
      rw [List.find?_eq_none]
      intro x _
      simp
      omega
    rw [if_pos rfl, h1]
    simp
  · rw [if_neg h]
    have hs : [s].find? (fun a => decide (key a = r)) = none := by
      rw [List.find?_eq_none]
      intro x hx
      rw [List.mem_singleton] at hx
      subst hx
      simp
      omega
    rw [hs]
    rcases Int.lt_or_gt_of_ne h with h1 | h1
    · have e1 : (l.find? fun a => decide (decide (key a < key s) = true ∧ decide (key a = r) = true)) = l.find? fun a => decide (key a = r) := by
        congr
        funext a
        by_cases h2 : key a = r
        · simp [h2, h1]
        · simp [h2]
      have e2 : (l.find? fun a => decide (decide (key s < key a) = true ∧ decide (key a = r) = true)) = none := by
        rw [List.find?_eq_none]
        intro x _
        simp
        omega
      rw [e1, e2]
      simp
    · have e1 : (l.find? fun a => decide (decide (key s < key a) = true ∧ decide (key a = r) = true)) = l.find? fun a => decide (key a = r) := by
        congr
        funext a
        by_cases h2 : key a = r
        · simp [h2, h1]
        · simp [h2]
      have e2 : (l.find? fun a => decide (decide (key a < key s) = true ∧ decide (key a = r) = true)) = none := by
        rw [List.find?_eq_none]
        intro x _
        simp
        omega
      rw [e1, e2]
      simp
theorem seatF_find : ∀ (l : List Seat) (r : Int), seatF l r = l.find? fun s => decide (s.router = r)
  | [], r => rfl
  | s :: l, r => by
    rw [seatF, List.find?_cons]
    by_cases h : s.router = r
    · simp [h]
    · simp [h, seatF_find l r]
theorem seatF_put (l : List Seat) (e : Ev) (r : Int) : seatF (putSeat l (seatOf e)) r = if r = e.router then some (seatOf e) else seatF l r := by
  rw [seatF_find, seatF_find]
  exact find_put Seat.router l (seatOf e) r
theorem routerF_after {n : Net} {e : Ev} {hz : Int} (hok : netOk n = true) (h : mayS n.seats e hz = 0) (h2 : (applyR (mineN n e) e).2 = 0) (r : Int) :
    routerF (netAfter n e hz).routers r = if r = e.router then some (applyR (mineN n e) e).1 else routerF n.routers r := by
  obtain ⟨g1, g2, g3, g4, g5⟩ := mayS_zero h
  obtain ⟨m1, m2⟩ := mineN_ok hok g2
  obtain ⟨a1, a2, a3⟩ := applyR_ok m1 g2 m2 h2
  rw [netAfter_routers hok h]
  simp only [cmpT_neg, cmpT_gt]
  have := find_put Router.id n.routers (applyR (mineN n e) e).1 r
  rw [a2] at this
  exact this
theorem happensF_get {n : Net} {e : Ev} {hz : Int} (hok : netOk n = true) (h : (happensF n e hz).2 = 0) :
    (∀ r, seatF (happensF n e hz).1.seats r = if r = e.router then some (seatOf e) else seatF n.seats r) ∧ ∀ r, routerF (happensF n e hz).1.routers r = if r = e.router then some (applyR (mineN n e) e).1 else routerF n.routers r := by
  obtain ⟨h1, h2, h3⟩ := happensF_zero h
  have hx : happensF n e hz = (netAfter n e hz, 0) := by
    unfold happensF
    rw [if_neg (by omega), if_neg (by omega), if_neg h3]
  rw [hx]
  refine ⟨fun r => ?_, routerF_after hok h1 h2⟩
  show seatF (nextS n.seats e hz).1 r = _
  rw [nextS_zero h1]
  exact seatF_put _ _ _
theorem putRt_sz (l : List Route) (x : Route) : (putRt l x).1.length ≤ l.length + 1 := by
  unfold putRt
  split
  · simp
  rename_i hc
  have hR : checkR l = 0 := by apply Classical.byContradiction; intro hn; exact hc (.inl hn)
  split
  · simp
  rw [ltR_wo, gtR_wo]
  cases hf : bsF (cmpQ x.pfx) l with
  | true => rw [← bs_set (strictR hR _) x hf]; simp
  | false =>
    rw [← bs_ins (strictR hR _) x hf]
    simp only [List.length_append, List.length_cons, List.length_take, List.length_drop]
    omega
theorem delRt_sz (l : List Route) (p : Pfx) : (delRt l p).1.length ≤ l.length := by
  unfold delRt
  split
  · simp
  · exact woR_len _ _
theorem putLk_sz (l : List Link) (x : Link) : (putLk l x).1.length ≤ l.length + 1 := by
  unfold putLk
  split
  · simp
  rename_i hc
  have hR : checkL l = 0 := by apply Classical.byContradiction; intro hn; exact hc (.inl hn)
  split
  · simp
  rw [ltL_cmp, gtL_cmp]
  cases hf : bsF (cmpL x.iface) l with
  | true => rw [← bs_set (strictL hR _) x hf]; simp
  | false =>
    rw [← bs_ins (strictL hR _) x hf]
    simp only [List.length_append, List.length_cons, List.length_take, List.length_drop]
    omega
theorem delLk_sz (l : List Link) (i : Int) : (delLk l i).1.length ≤ l.length := by
  unfold delLk
  split
  · simp
  rename_i hc
  have hR : checkL l = 0 := by apply Classical.byContradiction; intro hn; exact hc hn
  rw [ltL_cmp, gtL_cmp, ← bs_ne (strictL hR i)]
  exact List.length_filter_le _ _
theorem applyR_sz (r : Router) (e : Ev) : sz (applyR r e).1 ≤ sz r + if growsE e then 1 else 0 := by
  have b1 := putRt_sz r.routes ⟨e.pfx, e.act⟩
  have b2 := delRt_sz r.routes e.pfx
  have b3 := putLk_sz r.links ⟨e.iface, e.peer⟩
  have b4 := delLk_sz r.links e.iface
  have hg3 : e.kind = 3 → growsE e = true := fun h => by simp [growsE, h]
  have hg5 : e.kind = 5 → growsE e = true := fun h => by simp [growsE, h]
  unfold applyR
  split
  · simp [sz, router0]
  split
  · simp
  split
  · simp
  split
  · simp [sz]
  split
  · simp [sz]
  split
  · rename_i h
    rw [hg3 h]
    split
    · simp [sz]; omega
    · simp
  split
  · simp [sz]; omega
  split
  · rename_i h
    rw [hg5 h]
    split
    · simp [sz]; omega
    · simp
  · simp [sz]; omega
theorem happensF_sum {n : Net} {e : Ev} {hz : Int} (hok : netOk n = true) (h : (happensF n e hz).2 = 0) : sumR (happensF n e hz).1.routers ≤ sumR n.routers + if growsE e then 1 else 0 := by
  have hok2 := happensF_ok (e := e) (hz := hz) hok
  obtain ⟨h1, h2, h3⟩ := happensF_zero h
  have hx : happensF n e hz = (netAfter n e hz, 0) := by
    unfold happensF
    rw [if_neg (by omega), if_neg (by omega), if_neg h3]
  rw [hx] at hok2 ⊢
  have hm := (netOk_many hok2).1
  obtain ⟨c1, c2, c3⟩ := many_after hok h1 h2
  have hs := applyR_sz (mineN n e) e
  simp only at hm ⊢
  rw [c1] at hm
  omega
end Go.Am


set_option linter.unusedVariables false
set_option linter.unusedSimpArgs false
set_option pp.deepTerms false
set_option pp.deepTerms.threshold 40
namespace Go.Am
open Go.Proofs

/-- What is known of a net of the events up to a time, beside the net of all of them. -/
def Rel (t : Int) (N M : Net) : Prop := ∀ r, (seatF M.seats r = seatF N.seats r ∧ routerF M.routers r = routerF N.routers r) ∨ ∃ s, seatF N.seats r = some s ∧ t < s.time
def Sub (N M : Net) : Prop := ∀ r, seatF N.seats r = none → seatF M.seats r = none
theorem sorted_le : ∀ (b a : List Int), a.Pairwise (· < ·) → b.Pairwise (· < ·) → (∀ x ∈ a, x ∈ b) → a.length ≤ b.length
  | [], a, _, _, h => by
    cases a with
    | nil => exact Nat.le_refl _
    | cons x a => exact absurd (h x List.mem_cons_self) (by simp)
  | y :: b, [], _, _, _ => Nat.zero_le _
  | y :: b, x :: a, ha, hb, h => by
    have ha1 := List.pairwise_cons.1 ha
    have hb1 := List.pairwise_cons.1 hb
    by_cases hxy : x = y
    · subst hxy
      have := sorted_le b a ha1.2 hb1.2 fun z hz => by
        have h1 := ha1.1 z hz
        rcases List.mem_cons.1 (h z (List.mem_cons_of_mem _ hz)) with rfl | h2
        · omega
        · exact h2
      simp only [List.length_cons]
      omega
    · have hx : x ∈ b := (List.mem_cons.1 (h x List.mem_cons_self)).resolve_left hxy
      have hyx := hb1.1 x hx
      have := sorted_le b (x :: a) ha hb1.2 fun z hz => by
        rcases List.mem_cons.1 hz with rfl | hz'
        · exact hx
        · have h1 := ha1.1 z hz'
          rcases List.mem_cons.1 (h z hz) with rfl | h2
          · omega
          · exact h2
      simp only [List.length_cons] at *
      omega
theorem sub_len {N M : Net} (hN : netOk N = true) (hM : netOk M = true) (h : Sub N M) : M.seats.length ≤ N.seats.length := by
  have := sorted_le (N.seats.map Seat.router) (M.seats.map Seat.router) (by rw [List.pairwise_map]; exact checkS_sorted (netOk_checkS hM)) (by rw [List.pairwise_map]; exact checkS_sorted (netOk_checkS hN)) fun x hx => by
    obtain ⟨s, hs, rfl⟩ := List.mem_map.1 hx
    apply Classical.byContradiction
    intro hn
    have h1 : seatF N.seats s.router = none := by
      rw [seatF_none]
      rintro ⟨u, hu, hur⟩
      exact hn (List.mem_map.2 ⟨u, hu, hur⟩)
    have h2 := h _ h1
    rw [seatF_none] at h2
    exact h2 ⟨s, hs, rfl⟩
  simpa using this
theorem mayT_time {l : List Seat} {e : Ev} {hz : Int} (h : mayT l e hz = 0) : ((seatF l e.router).getD seat0).time ≤ e.time := by
  unfold mayT at h
  split at h
  · cases h
  split at h
  · cases h
  split at h
  · cases h
  omega
theorem mayT_same {l m : List Seat} {e : Ev} {hz : Int} (h : mayT l e hz = 0) (hs : seatF m e.router = seatF l e.router) (hl : seatF l e.router = none → ¬ m.length = 64) : mayT m e hz = 0 := by
  unfold mayT at h ⊢
  rw [hs]
  split at h
  · cases h
  rename_i c1
  split at h
  · cases h
  rename_i c2
  split at h
  · cases h
  rename_i c3
  split at h
  · cases h
  rename_i c4
  rw [if_neg c1, if_neg c2, if_neg c3, if_neg c4, if_neg]
  rintro ⟨h1, h2⟩
  exact hl h1 h2
/-- What happens at the one net happens at another one that knows as much of the router. -/
theorem happens_like {N M : Net} {e : Ev} {hz : Int} (hN : netOk N = true) (hM : netOk M = true) (h : (happensF N e hz).2 = 0) (hs : seatF M.seats e.router = seatF N.seats e.router) (hr : routerF M.routers e.router = routerF N.routers e.router)
    (hl : seatF N.seats e.router = none → ¬ M.seats.length = 64) (hsum : sumR M.routers + (if growsE e then 1 else 0) ≤ 1024) : (happensF M e hz).2 = 0 ∧ mineN M e = mineN N e := by
  obtain ⟨h1, h2, h3⟩ := happensF_zero h
  obtain ⟨g1, g2, g3, g4, g5⟩ := mayS_zero h1
  have hmine : mineN M e = mineN N e := by unfold mineN; rw [hr]
  have k1 : mayS M.seats e hz = 0 := by
    rw [mayS_T (netOk_checkS hM) g2 g3 g4]
    exact mayT_same g5 hs hl
  have k2 : (applyR (mineN M e) e).2 = 0 := by rw [hmine]; exact h2
  have k3 : ¬ 1024 < many (netAfter M e hz).routers 0 := by
    obtain ⟨c1, c2, c3⟩ := many_after hM k1 k2
    have hsz := applyR_sz (mineN M e) e
    rw [c1]
    omega
  refine ⟨?_, hmine⟩
  unfold happensF
  rw [if_neg (by omega), if_neg (by omega), if_neg k3]
theorem rel_step {N M : Net} {e : Ev} {hz t : Int} (hN : netOk N = true) (hM : netOk M = true) (h : (happensF N e hz).2 = 0) (hrel : Rel t N M) (hsub : Sub N M) (het : e.time ≤ t) (hsum : sumR M.routers + (if growsE e then 1 else 0) ≤ 1024) :
    (happensF M e hz).2 = 0 ∧ Rel t (happensF N e hz).1 (happensF M e hz).1 ∧ Sub (happensF N e hz).1 (happensF M e hz).1 := by
  obtain ⟨h1, h2, h3⟩ := happensF_zero h
  obtain ⟨g1, g2, g3, g4, g5⟩ := mayS_zero h1
  rcases hrel e.router with ⟨hs, hr⟩ | ⟨s, hs, hst⟩
  · have hlen := sub_len hN hM hsub
    have h64 := netOk_seats hN
    obtain ⟨k, hmine⟩ := happens_like hN hM h hs hr (fun hn => by have := mayT_len g5 hn; omega) hsum
    obtain ⟨n1, n2⟩ := happensF_get hN h
    obtain ⟨m1, m2⟩ := happensF_get hM k
    refine ⟨k, fun r => ?_, fun r hr0 => ?_⟩
    · rw [n1, n2, m1, m2, hmine]
      by_cases hre : r = e.router
      · simp only [if_pos hre]
        exact .inl (by simp)
      · simp only [if_neg hre]
        exact hrel r
    · rw [n1] at hr0
      rw [m1]
      by_cases hre : r = e.router
      · rw [if_pos hre] at hr0; cases hr0
      · rw [if_neg hre] at hr0 ⊢
        exact hsub r hr0
  · have := mayT_time g5
    rw [hs] at this
    simp only [Option.getD_some] at this
    omega
theorem rel_late {N M : Net} {e : Ev} {hz t : Int} (hN : netOk N = true) (h : (happensF N e hz).2 = 0) (hrel : Rel t N M) (hsub : Sub N M) (het : t < e.time) : Rel t (happensF N e hz).1 M ∧ Sub (happensF N e hz).1 M := by
  obtain ⟨n1, n2⟩ := happensF_get hN h
  refine ⟨fun r => ?_, fun r hr0 => ?_⟩
  · rw [n1, n2]
    by_cases hre : r = e.router
    · simp only [if_pos hre]
      exact .inr ⟨seatOf e, rfl, het⟩
    · simp only [if_neg hre]
      exact hrel r
  · rw [n1] at hr0
    by_cases hre : r = e.router
    · rw [if_pos hre] at hr0; cases hr0
    · rw [if_neg hre] at hr0
      exact hsub r hr0
theorem allGo_step {hz : Int} {e : Ev} {l : List Ev} {n : Net} {i : Int} (h : (allGo hz (e :: l) n i).2.2 = 0) : (happensF n e hz).2 = 0 ∧ allGo hz (e :: l) n i = allGo hz l (happensF n e hz).1 (i + 1) := by
  rw [allGo] at h
  split at h
  · rename_i h1
    exact ⟨h1, by rw [allGo, if_pos h1]⟩
  · rename_i h1
    exact absurd h h1
theorem filt_all {t hz : Int} : ∀ (l : List Ev) (N M : Net) (i j : Int), netOk N = true → netOk M = true → Rel t N M → Sub N M → sumR M.routers + addsE (upto t l) ≤ 1024 → (allGo hz l N i).2.2 = 0 →
    (allGo hz (upto t l) M j).2.2 = 0 ∧ Rel t (allGo hz l N i).1 (allGo hz (upto t l) M j).1 ∧ netOk (allGo hz (upto t l) M j).1 = true
  | [], N, M, i, j, hN, hM, hr, hs, _, _ => ⟨rfl, hr, hM⟩
  | e :: l, N, M, i, j, hN, hM, hr, hs, hsum, h => by
    obtain ⟨h1, h2⟩ := allGo_step h
    rw [h2] at h ⊢
    have hN' := happensF_ok (e := e) (hz := hz) hN
    by_cases het : e.time ≤ t
    · have hu : upto t (e :: l) = e :: upto t l := by unfold upto; rw [List.filter_cons, if_pos (by simpa using het)]
      have ha : addsE (upto t (e :: l)) = addsE (upto t l) + if growsE e then 1 else 0 := by
        rw [hu]
        unfold addsE growsE
        rw [List.countP_cons]
      rw [ha] at hsum
      obtain ⟨k1, k2, k3⟩ := rel_step hN hM h1 hr hs het (by omega)
      have hM' := happensF_ok (e := e) (hz := hz) hM
      have hsz := happensF_sum hM k1
      rw [hu, allGo, if_pos k1]
      exact filt_all l _ _ _ _ hN' hM' k2 k3 (by omega) h
    · have hu : upto t (e :: l) = upto t l := by unfold upto; rw [List.filter_cons, if_neg (by simpa using het)]
      rw [hu] at hsum ⊢
      obtain ⟨k2, k3⟩ := rel_late hN h1 hr hs (by omega)
      exact filt_all l _ _ _ _ hN' hM k2 k3 hsum h
theorem addsE_upto (t : Int) (l : List Ev) : addsE (upto t l) ≤ addsE l := (List.filter_sublist).countP_le
theorem okP_base {p : Past} (h : okP p = true) : netOk p.base = true := by
  unfold okP at h
  simp only [Bool.and_eq_true, decide_eq_true_eq] at h
  exact allN_ok h.1.2
theorem okP_all {p : Past} (h : okP p = true) : (allGo p.hz p.evs p.base 0).2.2 = 0 := by
  have hb := okP_base h
  unfold okP at h
  simp only [Bool.and_eq_true, decide_eq_true_eq] at h
  have := h.1.2
  unfold allN at this
  rw [if_neg (by simp [hb])] at this
  exact this
theorem okP_sum {p : Past} (h : okP p = true) : sumR p.base.routers + addsE p.evs ≤ 1024 := by
  have hb := okP_base h
  have hw := okP_weight h
  have hm := (netOk_many hb).1
  unfold weightF sizeN at hw
  rw [if_pos hb, hm] at hw
  omega
theorem Rel.refl (t : Int) (N : Net) : Rel t N N := fun r => .inl ⟨rfl, rfl⟩
/-- A right past has a net at each time. -/
theorem thenW_ok {p : Past} (h : okP p = true) (t : Int) : thenW p t = 0 := by
  have hb := okP_base h
  have hs := okP_sum h
  have ha := addsE_upto t p.evs
  unfold thenW allN
  rw [if_neg (by simp [hb])]
  exact (filt_all p.evs p.base p.base 0 0 hb hb (Rel.refl _ _) (fun r h => h) (by omega) (okP_all h)).1
end Go.Am


set_option linter.unusedVariables false
set_option linter.unusedSimpArgs false
set_option pp.deepTerms false
set_option pp.deepTerms.threshold 40
namespace Go.Am
open Go.Proofs

theorem atO_spec (p : Past) (t : Int) (hew : ∀ e ∈ p.evs, 0 ≤ e.seq) : FSpec Tryz.prog 27 [p.av, .int .i64 t] []
    (.tup [(if okP p = true ∧ askT p t = 0 then thenF p t else net0).av, .int .i64 (if okP p then askT p t else 2)]) [] := by
  have h := atP_spec p t hew
  have e : (if okP p then (if askT p t = 0 then thenW p t else askT p t) else 2) = if okP p then askT p t else 2 := by
    by_cases hok : okP p = true
    · rw [if_pos hok, if_pos hok]
      by_cases hb : askT p t = 0
      · rw [if_pos hb, hb, thenW_ok hok]
      · rw [if_neg hb]
    · rw [if_neg hok, if_neg hok]
  rw [e] at h
  exact h
theorem retO_spec (p : Past) (t : Int) (hew : ∀ e ∈ p.evs, 0 ≤ e.seq) : FSpec Tryz.prog 17 [p.av, .int .i64 t] [] (.tup [(retainP p t).1.av, .int .i64 (retainP p t).2]) [] :=
  retainPo_spec p t hew fun h _ => thenW_ok h t
def lE1 : Ev := ⟨1, 4, 1, 5, ⟨false, ⟨0, 0⟩, 0⟩, ⟨0, 0⟩, 0, 0⟩
def lE2 : Ev := ⟨5, 4, 2, 8, ⟨false, ⟨0, 0⟩, 0⟩, ⟨0, 0⟩, 3, 7⟩
def lE3 : Ev := ⟨1, 5, 1, 7, ⟨false, ⟨0, 0⟩, 0⟩, ⟨0, 0⟩, 0, 0⟩
def lP0 : Past := ⟨⟨[], []⟩, -1, []⟩
def lP1 : Past := ⟨⟨[], []⟩, -1, [lE1]⟩
def lP2 : Past := ⟨⟨[], []⟩, -1, [lE1, lE2]⟩
def lB : Net := ⟨[⟨4, 1, 5, true⟩], [⟨4, true, [], []⟩]⟩
def lN : Net := ⟨[⟨4, 2, 8, true⟩], [⟨4, true, [], [⟨3, 7⟩]⟩]⟩
def lQ : Past := ⟨lB, 7, [lE2]⟩
theorem l1 : takeP lP0 lE1 = (lP1, 0) := by kernel_rfl
theorem l2 : takeP lP1 lE2 = (lP2, 0) := by kernel_rfl
theorem l3 : okP lP2 = true := by kernel_rfl
theorem l4 : thenF lP2 4 = net0 := by kernel_rfl
theorem l5 : thenF lP2 5 = lB := by kernel_rfl
theorem l6 : nowP lP2 = lN := by kernel_rfl
theorem l7 : retainP lP2 7 = (lQ, 0) := by kernel_rfl
theorem l8 : okP lQ = true := by kernel_rfl
theorem l9 : thenF lQ 7 = lB := by kernel_rfl
theorem l10 : takeP lQ lE3 = (lQ, 13) := by kernel_rfl
theorem l11 : retainP lQ 6 = (lQ, 15) := by kernel_rfl
theorem l12 : weightF lQ = 1 := by kernel_rfl
theorem l13 : happT lP2.evs 5 9 = [8] := by kernel_rfl
theorem l14 : timesF lP2.evs 5 9 = [8] := by
  unfold timesF
  rw [l13]
  simp [sortI, dedup]
theorem l15 : timesW lP2 5 9 = 0 := by kernel_rfl
theorem lw2 : ∀ e ∈ lP2.evs, 0 ≤ e.seq := by intro e he; simp [lP2, lE1, lE2] at he; rcases he with rfl | rfl <;> decide
theorem lwq : ∀ e ∈ lQ.evs, 0 ≤ e.seq := by intro e he; simp [lQ, lE2] at he; subst he; decide
theorem s1 : FSpec Tryz.prog 15 [lP0.av, lE1.av] [] (.tup [lP1.av, .int .i64 0]) [] := by
  have h := takePo_spec lP0 lE1 (by intro e he; cases he) (by decide)
  rw [l1] at h; exact h
theorem s2 : FSpec Tryz.prog 15 [lP1.av, lE2.av] [] (.tup [lP2.av, .int .i64 0]) [] := by
  have h := takePo_spec lP1 lE2 (by intro e he; simp [lP1, lE1] at he; subst he; decide) (by decide)
  rw [l2] at h; exact h
theorem s3 : FSpec Tryz.prog 27 [lP2.av, .int .i64 4] [] (.tup [net0.av, .int .i64 0]) [] := by
  have h := atO_spec lP2 4 lw2
  rw [if_pos ⟨l3, by decide⟩, if_pos l3, l4, show askT lP2 4 = 0 by decide] at h
  exact h
theorem s4 : FSpec Tryz.prog 27 [lP2.av, .int .i64 5] [] (.tup [lB.av, .int .i64 0]) [] := by
  have h := atO_spec lP2 5 lw2
  rw [if_pos ⟨l3, by decide⟩, if_pos l3, l5, show askT lP2 5 = 0 by decide] at h
  exact h
theorem s5 : FSpec Tryz.prog 29 [lP2.av] [] (.tup [lN.av, .int .i64 0]) [] := by
  have h := nowP_spec lP2 lw2
  rw [if_pos l3, if_pos l3, l6] at h
  exact h
theorem s6 : FSpec Tryz.prog 31 [lP2.av, .agg [.int .i64 5, .int .i64 9]] [] (.tup [.im (.sl 1 (rowN [8])), .int .i64 0]) [] := by
  have h := timesPo_spec lP2 5 9 lw2
  rw [if_pos l15, l14, l15] at h
  exact h
theorem s7 : FSpec Tryz.prog 17 [lP2.av, .int .i64 7] [] (.tup [lQ.av, .int .i64 0]) [] := by
  have h := retO_spec lP2 7 lw2
  rw [l7] at h; exact h
theorem s8 : FSpec Tryz.prog 27 [lQ.av, .int .i64 5] [] (.tup [net0.av, .int .i64 15]) [] := by
  have h := atO_spec lQ 5 lwq
  rw [if_neg (fun hh => absurd hh.2 (by decide)), if_pos l8, show askT lQ 5 = 15 by decide] at h
  exact h
theorem s9 : FSpec Tryz.prog 27 [lQ.av, .int .i64 7] [] (.tup [lB.av, .int .i64 0]) [] := by
  have h := atO_spec lQ 7 lwq
  rw [if_pos ⟨l8, by decide⟩, if_pos l8, l9, show askT lQ 7 = 0 by decide] at h
  exact h
theorem s10 : FSpec Tryz.prog 15 [lQ.av, lE3.av] [] (.tup [lQ.av, .int .i64 13]) [] := by
  have h := takePo_spec lQ lE3 lwq (by decide)
  rw [l10] at h; exact h
theorem s11 : FSpec Tryz.prog 17 [lQ.av, .int .i64 6] [] (.tup [lQ.av, .int .i64 15]) [] := by
  have h := retO_spec lQ 6 lwq
  rw [l11] at h; exact h
theorem s12 : FSpec Tryz.prog 19 [lQ.av] [] (.tup [.int .i64 1, .int .i64 0]) [] := by
  have h := weightP_spec lQ lwq
  rw [if_pos l8, if_pos l8, l12] at h
  exact h
theorem s13 : FSpec Tryz.prog 22 [lQ.av] [] (.int .i64 0) [] := by
  have h := checkP_spec_ lQ lwq
  rw [if_pos l8] at h
  exact h
set_option maxRecDepth 8000 in
set_option maxHeartbeats 4000000 in
theorem lives21_spec : FSpec Tryz.prog 21 [] [] (.bool true) [] := by
  refine FSpec.of_flat (q := []) Tryz.func21 (by kernel_rfl) rfl Tryz.ntmps21 Tryz.results21 hP (by kernel_rfl) (by simp) (by first | rfl | simp) ?_
  simp -implicitDefEqProofs
  first | refine CallK.same (makePo_spec) rfl rfl ?_ | refine CallQ.same (makePo_spec) rfl rfl ?_ | refine CallQG.same _ (makePo_spec) rfl ?_ | refine CallG.same _ (makePo_spec) rfl ?_ | refine CallK.pv (makePo_spec) rfl rfl ?_
  simp -implicitDefEqProofs
  refine CallK.v0 s1 rfl (by simp [lP0, lE1]) rfl ?_
  simp -implicitDefEqProofs
  refine CallK.v0 s2 rfl (by simp [lE2]) rfl ?_
  simp -implicitDefEqProofs
  first | refine CallK.same (s3) rfl rfl ?_ | refine CallQ.same (s3) rfl rfl ?_ | refine CallQG.same _ (s3) rfl ?_ | refine CallG.same _ (s3) rfl ?_ | refine CallK.pv (s3) rfl rfl ?_
  simp -implicitDefEqProofs
  first | refine CallK.same (s4) rfl rfl ?_ | refine CallQ.same (s4) rfl rfl ?_ | refine CallQG.same _ (s4) rfl ?_ | refine CallG.same _ (s4) rfl ?_ | refine CallK.pv (s4) rfl rfl ?_
  simp -implicitDefEqProofs
  first | refine CallK.same (s5) rfl rfl ?_ | refine CallQ.same (s5) rfl rfl ?_ | refine CallQG.same _ (s5) rfl ?_ | refine CallG.same _ (s5) rfl ?_ | refine CallK.pv (s5) rfl rfl ?_
  simp -implicitDefEqProofs
  first | refine CallK.same (s6) rfl rfl ?_ | refine CallQ.same (s6) rfl rfl ?_ | refine CallQG.same _ (s6) rfl ?_ | refine CallG.same _ (s6) rfl ?_ | refine CallK.pv (s6) rfl rfl ?_
  simp -implicitDefEqProofs
  first | refine CallK.same (s7) rfl rfl ?_ | refine CallQ.same (s7) rfl rfl ?_ | refine CallQG.same _ (s7) rfl ?_ | refine CallG.same _ (s7) rfl ?_ | refine CallK.pv (s7) rfl rfl ?_
  simp -implicitDefEqProofs
  first | refine CallK.same (s8) rfl rfl ?_ | refine CallQ.same (s8) rfl rfl ?_ | refine CallQG.same _ (s8) rfl ?_ | refine CallG.same _ (s8) rfl ?_ | refine CallK.pv (s8) rfl rfl ?_
  simp -implicitDefEqProofs
  first | refine CallK.same (s9) rfl rfl ?_ | refine CallQ.same (s9) rfl rfl ?_ | refine CallQG.same _ (s9) rfl ?_ | refine CallG.same _ (s9) rfl ?_ | refine CallK.pv (s9) rfl rfl ?_
  simp -implicitDefEqProofs
  refine CallK.v0 s10 rfl (by simp [lE3]) rfl ?_
  simp -implicitDefEqProofs
  first | refine CallK.same (s11) rfl rfl ?_ | refine CallQ.same (s11) rfl rfl ?_ | refine CallQG.same _ (s11) rfl ?_ | refine CallG.same _ (s11) rfl ?_ | refine CallK.pv (s11) rfl rfl ?_
  simp -implicitDefEqProofs
  first | refine CallK.same (s12) rfl rfl ?_ | refine CallQ.same (s12) rfl rfl ?_ | refine CallQG.same _ (s12) rfl ?_ | refine CallG.same _ (s12) rfl ?_ | refine CallK.pv (s12) rfl rfl ?_
  simp -implicitDefEqProofs [lN, lB, lQ, net0, rowN]
  have hB : FSpec Tryz.prog 33 [lB.av, lB.av] [] (.bool true) [] := same18_spec lB
  first | refine CallG.on ?_ | skip
  refine CallK.v0 hB rfl (by simp [lB]) rfl ?_
  simp -implicitDefEqProofs
  first | refine CallG.on ?_ | skip
  refine CallK.v0 s13 rfl (by simp [lQ, lB]) rfl ?_
  simp -implicitDefEqProofs
  first | refine CallG.on ?_ | skip
  first | refine CallK.same (makePo_spec) rfl rfl ?_ | refine CallQ.same (makePo_spec) rfl rfl ?_ | refine CallQG.same _ (makePo_spec) rfl ?_ | refine CallG.same _ (makePo_spec) rfl ?_ | refine CallK.pv (makePo_spec) rfl rfl ?_
  simp -implicitDefEqProofs
end Go.Am


set_option linter.unusedVariables false
set_option linter.unusedSimpArgs false
set_option pp.deepTerms false
set_option pp.deepTerms.threshold 40
namespace Go.Am
open Go.Proofs

theorem rows_of {α : Type} {f : α → List IV} {Q : α → Prop} {l : List Sh} (h : ∀ y, Sh.hasL l y → ∃ a, Q a ∧ y = f a) : ∀ xs : List (List IV), (∀ y ∈ xs, Sh.hasL l y) → ∃ zs : List α, xs = zs.map f ∧ ∀ a ∈ zs, Q a
  | [], _ => ⟨[], rfl, fun a ha => by cases ha⟩
  | x :: xs, hx => by
    obtain ⟨a, h1, h2⟩ := h x (hx x List.mem_cons_self)
    obtain ⟨zs, h3, h4⟩ := rows_of h xs fun y hy => hx y (List.mem_cons_of_mem _ hy)
    exact ⟨a :: zs, by rw [h2, h3]; rfl, fun b hb => by
      rcases List.mem_cons.1 hb with rfl | hb
      · exact h1
      · exact h4 b hb⟩
theorem hasL_cons {s : Sh} {l : List Sh} {xs : List IV} (h : Sh.hasL (s :: l) xs) : ∃ y ys, xs = y :: ys ∧ s.has y ∧ Sh.hasL l ys := by simpa only [Sh.hasL] using h
theorem hasL_nil {xs : List IV} (h : Sh.hasL [] xs) : xs = [] := by simpa only [Sh.hasL] using h
theorem has_int {q : IntKind} {x : IV} (h : (Sh.int q).has x) : ∃ n : Int, x = .sc (.int q n) ∧ (Lit.int q n).wf = true := by simpa only [Sh.has] using h
theorem has_bool {x : IV} (h : Sh.bool.has x) : ∃ b : Bool, x = .sc (.bool b) := by simpa only [Sh.has] using h
theorem has_sl {l : List Sh} {x : IV} (h : (Sh.sl l).has x) : ∃ xs : List (List IV), x = .sl l.length xs ∧ ∀ y ∈ xs, Sh.hasL l y := by simpa only [Sh.has] using h
theorem u64_wf {n : Int} (h : (Lit.int .u64 n).wf = true) : 0 ≤ n ∧ n < 18446744073709551616 := by
  simp [Lit.wf, IntKind.min, IntKind.max, IntKind.signed, IntKind.bits] at h
  omega
def seatSh : List Sh := [.int .i64, .int .u64, .int .i64, .bool]
def routeSh : List Sh := [.bool, .int .u64, .int .u64, .int .i64, .int .u8, .int .i64]
def linkSh : List Sh := [.int .i64, .int .i64]
def routerSh : List Sh := [.int .i64, .bool, .sl routeSh, .sl linkSh]
theorem seat_of (y : List IV) (h : Sh.hasL seatSh y) : ∃ s : Seat, True ∧ y = s.iv := by
  obtain ⟨a, _, rfl, ha, h⟩ := hasL_cons h
  obtain ⟨b, _, rfl, hb, h⟩ := hasL_cons h
  obtain ⟨c, _, rfl, hc, h⟩ := hasL_cons h
  obtain ⟨d, _, rfl, hd, h⟩ := hasL_cons h
  cases hasL_nil h
  obtain ⟨a, rfl, _⟩ := has_int ha
  obtain ⟨b, rfl, _⟩ := has_int hb
  obtain ⟨c, rfl, _⟩ := has_int hc
  obtain ⟨d, rfl⟩ := has_bool hd
  exact ⟨⟨a, b, c, d⟩, trivial, rfl⟩
theorem link_of (y : List IV) (h : Sh.hasL linkSh y) : ∃ s : Link, True ∧ y = s.iv := by
  obtain ⟨a, _, rfl, ha, h⟩ := hasL_cons h
  obtain ⟨b, _, rfl, hb, h⟩ := hasL_cons h
  cases hasL_nil h
  obtain ⟨a, rfl, _⟩ := has_int ha
  obtain ⟨b, rfl, _⟩ := has_int hb
  exact ⟨⟨a, b⟩, trivial, rfl⟩
theorem route_of (y : List IV) (h : Sh.hasL routeSh y) : ∃ s : Route, s.pfx.addr.wf ∧ y = s.iv := by
  obtain ⟨a, _, rfl, ha, h⟩ := hasL_cons h
  obtain ⟨b, _, rfl, hb, h⟩ := hasL_cons h
  obtain ⟨c, _, rfl, hc, h⟩ := hasL_cons h
  obtain ⟨d, _, rfl, hd, h⟩ := hasL_cons h
  obtain ⟨e, _, rfl, he, h⟩ := hasL_cons h
  obtain ⟨f, _, rfl, hf, h⟩ := hasL_cons h
  cases hasL_nil h
  obtain ⟨a, rfl⟩ := has_bool ha
  obtain ⟨b, rfl, wb⟩ := has_int hb
  obtain ⟨c, rfl, wc⟩ := has_int hc
  obtain ⟨d, rfl, _⟩ := has_int hd
  obtain ⟨e, rfl, _⟩ := has_int he
  obtain ⟨f, rfl, _⟩ := has_int hf
  exact ⟨⟨⟨a, ⟨b, c⟩, d⟩, ⟨e, f⟩⟩, ⟨(u64_wf wb).1, (u64_wf wb).2, u64_wf wc⟩, rfl⟩
theorem router_of (y : List IV) (h : Sh.hasL routerSh y) : ∃ s : Router, s.wf ∧ y = s.iv := by
  obtain ⟨a, _, rfl, ha, h⟩ := hasL_cons h
  obtain ⟨b, _, rfl, hb, h⟩ := hasL_cons h
  obtain ⟨c, _, rfl, hc, h⟩ := hasL_cons h
  obtain ⟨d, _, rfl, hd, h⟩ := hasL_cons h
  cases hasL_nil h
  obtain ⟨a, rfl, _⟩ := has_int ha
  obtain ⟨b, rfl⟩ := has_bool hb
  obtain ⟨c, rfl, wc⟩ := has_sl hc
  obtain ⟨d, rfl, wd⟩ := has_sl hd
  obtain ⟨rs, rfl, hr⟩ := rows_of route_of c wc
  obtain ⟨ls, rfl, _⟩ := rows_of link_of d wd
  exact ⟨⟨a, b, rs, ls⟩, hr, rfl⟩
theorem hasArgs_cons {s : List Sh} {l : List (List Sh)} {xs : List (List IV)} (h : hasArgs (s :: l) xs) : ∃ y ys, xs = y :: ys ∧ Sh.hasL s y ∧ hasArgs l ys := h
end Go.Am


set_option linter.unusedVariables false
set_option linter.unusedSimpArgs false
set_option pp.deepTerms false
set_option pp.deepTerms.threshold 40
namespace Go.Am
open Go.Proofs

theorem Past.wf_seq {p : Past} (h : p.wf) : ∀ e ∈ p.evs, 0 ≤ e.seq := fun e he => (h.2 e he).1
def evSh : List Sh := [.int .u8, .int .i64, .int .u64, .int .i64, .bool, .int .u64, .int .u64, .int .i64, .int .u8, .int .i64, .int .i64, .int .i64]
def pastSh : List Sh := [.sl seatSh, .sl routerSh, .int .i64, .sl evSh]
def ivlSh : List Sh := [.int .i64, .int .i64]
theorem ev_of (y : List IV) (h : Sh.hasL evSh y) : ∃ e : Ev, (0 ≤ e.seq ∧ e.pfx.addr.wf) ∧ y = e.iv := by
  obtain ⟨a, _, rfl, ha, h⟩ := hasL_cons h
  obtain ⟨b, _, rfl, hb, h⟩ := hasL_cons h
  obtain ⟨c, _, rfl, hc, h⟩ := hasL_cons h
  obtain ⟨d, _, rfl, hd, h⟩ := hasL_cons h
  obtain ⟨e, _, rfl, he, h⟩ := hasL_cons h
  obtain ⟨f, _, rfl, hf, h⟩ := hasL_cons h
  obtain ⟨g, _, rfl, hg, h⟩ := hasL_cons h
  obtain ⟨i, _, rfl, hi, h⟩ := hasL_cons h
  obtain ⟨j, _, rfl, hj, h⟩ := hasL_cons h
  obtain ⟨k, _, rfl, hk, h⟩ := hasL_cons h
  obtain ⟨l, _, rfl, hl, h⟩ := hasL_cons h
  obtain ⟨m, _, rfl, hm, h⟩ := hasL_cons h
  cases hasL_nil h
  obtain ⟨a, rfl, _⟩ := has_int ha
  obtain ⟨b, rfl, _⟩ := has_int hb
  obtain ⟨c, rfl, wc⟩ := has_int hc
  obtain ⟨d, rfl, _⟩ := has_int hd
  obtain ⟨e, rfl⟩ := has_bool he
  obtain ⟨f, rfl, wf⟩ := has_int hf
  obtain ⟨g, rfl, wg⟩ := has_int hg
  obtain ⟨i, rfl, _⟩ := has_int hi
  obtain ⟨j, rfl, _⟩ := has_int hj
  obtain ⟨k, rfl, _⟩ := has_int hk
  obtain ⟨l, rfl, _⟩ := has_int hl
  obtain ⟨m, rfl, _⟩ := has_int hm
  exact ⟨⟨a, b, c, d, ⟨e, ⟨f, g⟩, i⟩, ⟨j, k⟩, l, m⟩, ⟨(u64_wf wc).1, ⟨(u64_wf wf).1, (u64_wf wf).2, u64_wf wg⟩⟩, rfl⟩
theorem past_of (y : List IV) (h : Sh.hasL pastSh y) : ∃ p : Past, p.wf ∧ y.map AV.im = [.im (.sl 4 (p.base.seats.map Seat.iv)), .im (.sl 4 (p.base.routers.map Router.iv)), .int .i64 p.hz, .im (.sl 12 (p.evs.map Ev.iv))] := by
  obtain ⟨a, _, rfl, ha, h⟩ := hasL_cons h
  obtain ⟨b, _, rfl, hb, h⟩ := hasL_cons h
  obtain ⟨c, _, rfl, hc, h⟩ := hasL_cons h
  obtain ⟨d, _, rfl, hd, h⟩ := hasL_cons h
  cases hasL_nil h
  obtain ⟨a, rfl, wa⟩ := has_sl ha
  obtain ⟨b, rfl, wb⟩ := has_sl hb
  obtain ⟨c, rfl, _⟩ := has_int hc
  obtain ⟨d, rfl, wd⟩ := has_sl hd
  obtain ⟨ss, rfl, _⟩ := rows_of seat_of a wa
  obtain ⟨rs, rfl, hr⟩ := rows_of router_of b wb
  obtain ⟨es, rfl, hes⟩ := rows_of ev_of d wd
  exact ⟨⟨⟨ss, rs⟩, c, es⟩, ⟨hr, hes⟩, rfl⟩
theorem ivl_of {x : List IV} (h : Sh.hasL ivlSh x) : ∃ a b : Int, x = [.sc (.int .i64 a), .sc (.int .i64 b)] := by
  obtain ⟨a, _, rfl, ha, h⟩ := hasL_cons h
  obtain ⟨b, _, rfl, hb, h⟩ := hasL_cons h
  cases hasL_nil h
  obtain ⟨a, rfl, _⟩ := has_int ha
  obtain ⟨b, rfl, _⟩ := has_int hb
  exact ⟨a, b, rfl⟩
end Go.Am


set_option linter.unusedVariables false
set_option linter.unusedSimpArgs false
set_option pp.deepTerms false
set_option pp.deepTerms.threshold 40
namespace Go.Am
open Go.Proofs

theorem past_arg (y : List IV) (h : Sh.hasL pastSh y) : ∃ p : Past, p.wf ∧ argAV Tryz.prog 28 y = p.av := by
  obtain ⟨p, hp, ep⟩ := past_of y h
  refine ⟨p, hp, ?_⟩
  simp only [argAV, Tryz.underlying28, ep]
  rfl
theorem args_between {xs : List (List IV)} (h : hasArgs [pastSh, ivlSh] xs) : ∃ (p : Past) (a b : Int), p.wf ∧ argsAV Tryz.prog [28, 53] xs = [p.av, .agg [.int .i64 a, .int .i64 b]] := by
  obtain ⟨x, _, rfl, hx, h⟩ := hasArgs_cons h
  obtain ⟨z, _, rfl, hz, h⟩ := hasArgs_cons h
  cases h
  obtain ⟨p, hp, ep⟩ := past_arg x hx
  obtain ⟨a, b, rfl⟩ := ivl_of hz
  refine ⟨p, a, b, hp, ?_⟩
  simp only [argsAV, ep]
  simp only [argAV, Tryz.underlying53]
  rfl
end Go.Am


set_option linter.unusedVariables false
set_option linter.unusedSimpArgs false
set_option pp.deepTerms false
set_option pp.deepTerms.threshold 40
namespace Go.Am
open Go.Proofs

end Go.Am


set_option linter.unusedVariables false
set_option linter.unusedSimpArgs false
set_option pp.deepTerms false
set_option pp.deepTerms.threshold 40
namespace Go.Am
open Go.Proofs

end Go.Am


set_option linter.unusedVariables false
set_option linter.unusedSimpArgs false
set_option pp.deepTerms false
set_option pp.deepTerms.threshold 40
namespace Go.Am
open Go.Proofs

end Go.Am


set_option linter.unusedVariables false
set_option linter.unusedSimpArgs false
set_option pp.deepTerms false
set_option pp.deepTerms.threshold 40
namespace Go.Am
open Go.Proofs

/-- Between two times at which something happened no event is. -/
theorem between_go {T : List Int} {l : List Ev} {a b : Int} (hs : T.Pairwise (· < ·)) (hT : ∀ r, r ∈ T → a < r ∧ r ≤ b + 1) (hin' : ∀ e ∈ l, a < e.time → e.time ≤ b → e.time ∈ T) (k : Nat) (hk : k < T.length) (x : Int) (hx : x = if k = 0 then a else T[k - 1]'(by omega)) :
    a ≤ x ∧ x < T[k] ∧ T[k] ≤ b + 1 ∧ upto x l = upto (T[k] - 1) l := by
  have hp := List.pairwise_iff_getElem.1 hs
  have hk1 := hT T[k] (List.getElem_mem _)
  have hlt : a ≤ x ∧ x < T[k] := by
    by_cases h0 : k = 0
    · rw [if_pos h0] at hx
      omega
    · rw [if_neg h0] at hx
      have h1 := hp (k - 1) k (by omega) hk (by omega)
      have h2 := hT T[k - 1] (List.getElem_mem _)
      omega
  refine ⟨hlt.1, hlt.2, hk1.2, ?_⟩
  unfold upto
  refine List.filter_congr fun e he => ?_
  have : e.time ≤ x ↔ e.time ≤ T[k] - 1 := by
    refine ⟨fun h => by omega, fun h => ?_⟩
    apply Classical.byContradiction
    intro hn
    obtain ⟨j, hj, hje⟩ := List.getElem_of_mem (hin' e he (by omega) (by omega))
    by_cases hjk : k ≤ j
    · rcases Nat.lt_or_ge k j with h1 | h1
      · have := hp k j hk hj h1; omega
      · have : k = j := by omega
        subst this
        omega
    · by_cases h0 : k = 0
      · omega
      rw [if_neg h0] at hx
      rcases Nat.lt_or_ge j (k - 1) with h1 | h1
      · have := hp j (k - 1) hj (by omega) h1; omega
      · have : j = k - 1 := by omega
        subst this
        omega
  simp only [this]
theorem between {l : List Ev} {a b : Int} (hab : a ≤ b) (k : Nat) (hk : k < (timesF l a b ++ [b + 1]).length) (x : Int) (hx : x = if k = 0 then a else (timesF l a b ++ [b + 1])[k - 1]'(by omega)) :
    a ≤ x ∧ x < (timesF l a b ++ [b + 1])[k] ∧ (timesF l a b ++ [b + 1])[k] ≤ b + 1 ∧ upto x l = upto ((timesF l a b ++ [b + 1])[k] - 1) l := by
  have hm : ∀ r, r ∈ timesF l a b → a < r ∧ r ≤ b := by
    intro r hr
    rw [timesF_mem] at hr
    unfold happT at hr
    obtain ⟨e, he, rfl⟩ := List.mem_map.1 hr
    have := (List.mem_filter.1 he).2
    simpa using this
  refine between_go ?_ ?_ ?_ k hk x hx
  · rw [List.pairwise_append]
    refine ⟨timesF_sorted l a b, by simp, fun r hr y hy => ?_⟩
    rw [List.mem_singleton] at hy
    subst hy
    have := (hm r hr).2
    omega
  · intro r hr
    rcases List.mem_append.1 hr with hr | hr
    · have := hm r hr; omega
    · rw [List.mem_singleton] at hr; omega
  · intro e he h1 h2
    refine List.mem_append.2 (.inl ?_)
    rw [timesF_mem]
    exact List.mem_map.2 ⟨e, List.mem_filter.2 ⟨he, by simp [h1, h2]⟩, rfl⟩
end Go.Am


set_option linter.unusedVariables false
set_option linter.unusedSimpArgs false
set_option pp.deepTerms false
set_option pp.deepTerms.threshold 40
namespace Go.Am
open Go.Proofs

theorem timesW_zero {p : Past} {a b : Int} (h : timesW p a b = 0) : okP p = true ∧ 0 ≤ a ∧ p.hz ≤ a ∧ a ≤ b ∧ b ≤ 1099511627776 := by
  unfold timesW at h
  split at h
  · cases h
  · rename_i hok
    have hok : okP p = true := by simpa using hok
    unfold winW at h
    split at h
    · cases h
    rename_i h1
    split at h
    · cases h
    rename_i h2
    have h1 : oneI a b = true := by simpa using h1
    unfold oneI at h1
    simp at h1
    refine ⟨hok, ?_⟩
    omega
set_option maxRecDepth 8000 in
set_option maxHeartbeats 4000000 in
theorem between_walk (p : Past) (a b : Int) (T : List Int) (B : Nat → Int) (N : Nat → Net) (hb : -1000 ≤ b ∧ b ≤ 1099511627776) (hT : T.length ≤ 2000)
    (h0 : B 0 = a) (hB : ∀ k (h : k < (T ++ [b + 1]).length), B (k + 1) = (T ++ [b + 1])[k] ∧ B k < B (k + 1) ∧ -1000 ≤ B (k + 1) ∧ B (k + 1) ≤ 1099511627777)
    (g1 : FSpec Tryz.prog 31 [p.av, .agg [.int .i64 a, .int .i64 b]] [] (.tup [.im (.sl 1 (rowN T)), .int .i64 0]) [])
    (g2 : ∀ k, k < (T ++ [b + 1]).length → FSpec Tryz.prog 27 [p.av, .int .i64 (B k)] [] (.tup [(N k).av, .int .i64 0]) [])
    (g3 : ∀ k, k < (T ++ [b + 1]).length → FSpec Tryz.prog 27 [p.av, .int .i64 (B (k + 1) - 1)] [] (.tup [(N k).av, .int .i64 0]) []) :
    FSpec Tryz.prog 7 [p.av, .agg [.int .i64 a, .int .i64 b]] [] (.bool true) [] := by
  have eb : IntKind.i64.wrap (b + 1) = b + 1 := wrap64 (by omega) (by omega)
  refine FSpec.of_flat (q := [(7, .m [.e [], .p [0], .e [29, 30], .p [0, 1], .p [0, 1], .p [0, 1], .a 0 2, .e [31, 35], .p [], .p [0, 1, 2]])]) Tryz.func7 (by kernel_rfl) rfl Tryz.ntmps7 Tryz.results7 hP (by kernel_rfl) (by simp) (by first | rfl | simp) ?_
  simp -implicitDefEqProofs
  first | refine CallK.same (lives21_spec) rfl rfl ?_ | refine CallQ.same (lives21_spec) rfl rfl ?_ | refine CallQG.same _ (lives21_spec) rfl ?_ | refine CallG.same _ (lives21_spec) rfl ?_ | refine CallK.pv (lives21_spec) rfl rfl ?_
  simp -implicitDefEqProofs
  first | refine CallK.same (g1) rfl rfl ?_ | refine CallQ.same (g1) rfl rfl ?_ | refine CallQG.same _ (g1) rfl ?_ | refine CallG.same _ (g1) rfl ?_ | refine CallK.pv (g1) rfl rfl ?_
  simp -implicitDefEqProofs [eb]
  refine ⟨⟨by omega, by unfold maxLen; omega⟩, ⟨by omega, by unfold maxLen; omega⟩, ?_⟩
  obtain ⟨S, hS⟩ : ∃ S, rowN T ++ [[IV.sc (Value.int .i64 (b + 1))]] = S := ⟨_, rfl⟩
  have hSl : S.length = T.length + 1 := by rw [← hS]; simp
  have hTl : (T ++ [b + 1]).length = T.length + 1 := by simp
  have hSg : ∀ k, k < T.length + 1 → S[k]? = some [.sc (.int .i64 (B (k + 1)))] := by
    intro k hk
    have h1 := (hB k (by omega)).1
    have h2 : S = rowN (T ++ [b + 1]) := by rw [← hS]; simp [rowN]
    rw [h2, h1]
    simp only [rowN, List.getElem?_map, List.getElem?_eq_getElem (show k < (T ++ [b + 1]).length by omega), Option.map_some]
  have hB : ∀ k, k < T.length + 1 → B k < B (k + 1) ∧ -1000 ≤ B (k + 1) ∧ B (k + 1) ≤ 1099511627777 := fun k hk => (hB k (by omega)).2
  rw [hTl] at g2 g3
  refine LoopK.os (fun k : Nat => [(2, .ptr 0 0), (7, .int .i64 (B k)), (36, .row 1), (37, .int .i64 (T.length + 1)), (38, .int .i64 k)])
    (fun k => [pastO p, .row 2 1 S])
    (fun k => k ≤ T.length + 1) (fun k => T.length + 1 - k) 0 [0, 5] (Nat.zero_le _) (by simp [h0, hS]) ?_
  intro k hk
  by_cases hlt : k < T.length + 1
  · have e1 : IntKind.i64.wrap (k + 1) = (k + 1 : Nat) := wrap64 (by omega) (by omega)
    have hg := hSg k hlt
    obtain ⟨hb1, hb2, hb3⟩ := hB k hlt
    have hc := g2 k hlt
    have hd := g3 k hlt
    have hn := same18_spec (N k)
    have ed : IntKind.i64.wrap (B (k + 1) - 1) = B (k + 1) - 1 := wrap64 (by omega) (by omega)
    have hlt2 : (k : Int) < (T.length : Int) + 1 := by omega
    have hns : k < S.length := by omega
    generalize hY : B (k + 1) = Y at *
    generalize B k = X at *
    generalize N k = M at *
    have hg2 : S[k]'hns = [.sc (.int .i64 Y)] := by
      rw [List.getElem?_eq_getElem hns] at hg
      exact Option.some.inj hg
    have hyx : ¬ Y ≤ X := by omega
    simp -implicitDefEqProofs [hlt2, hg2, hns, ed, e1, hyx]
    first | refine CallK.same (hc) rfl rfl ?_ | refine CallQ.same (hc) rfl rfl ?_ | refine CallQG.same _ (hc) rfl ?_ | refine CallG.same _ (hc) rfl ?_ | refine CallK.pv (hc) rfl rfl ?_
    simp -implicitDefEqProofs [ed]
    first | refine CallK.same (hd) rfl rfl ?_ | refine CallQ.same (hd) rfl rfl ?_ | refine CallQG.same _ (hd) rfl ?_ | refine CallG.same _ (hd) rfl ?_ | refine CallK.pv (hd) rfl rfl ?_
    simp -implicitDefEqProofs
    first | refine CallG.off (.bool true) ?_ | (refine CallG.on ?_; first | refine CallK.same (hn) rfl rfl ?_ | refine CallQ.same (hn) rfl rfl ?_ | refine CallQG.same _ (hn) rfl ?_ | refine CallG.same _ (hn) rfl ?_ | refine CallK.pv (hn) rfl rfl ?_)
    simp -implicitDefEqProofs
    refine Again.os (k + 1) [0, 1] hlt (by omega) ?_
    simp -implicitDefEqProofs [e1, hY]
  · have hkk : k = T.length + 1 := by omega
    subst hkk
    simp -implicitDefEqProofs
theorem pastBetween_spec (p : Past) (a b : Int) (hw : p.wf) : FSpec Tryz.prog 7 [p.av, .agg [.int .i64 a, .int .i64 b]] [] (.bool true) [] := by
  have h5 := timesPo_spec p a b (Past.wf_seq hw)
  by_cases h : timesW p a b = 0
  · obtain ⟨hok, ha, hz, hab, hbm⟩ := timesW_zero h
    rw [if_pos h, h] at h5
    have hTl : (timesF p.evs a b).length ≤ 2000 := by
      have g1 := okP_len hok
      have g2 := dedup_len (sortI (happT p.evs a b))
      rw [(sortI_perm _).length_eq] at g2
      have g3 := happT_len p.evs a b
      unfold timesF
      omega
    have hbt := fun k hk x hx => between (l := p.evs) hab k hk x hx
    let B : Nat → Int := fun k => if k = 0 then a else (timesF p.evs a b ++ [b + 1])[k - 1]?.getD 0
    have hB1 : ∀ k (hk : k < (timesF p.evs a b ++ [b + 1]).length), B (k + 1) = (timesF p.evs a b ++ [b + 1])[k] := by
      intro k hk
      simp only [B]
      rw [if_neg (by omega), Nat.add_sub_cancel, List.getElem?_eq_getElem hk]
      rfl
    have hB2 : ∀ k (hk : k < (timesF p.evs a b ++ [b + 1]).length), a ≤ B k ∧ B k < B (k + 1) ∧ B (k + 1) ≤ b + 1 ∧ upto (B k) p.evs = upto (B (k + 1) - 1) p.evs := by
      intro k hk
      rw [hB1 k hk]
      refine hbt k hk (B k) ?_
      simp only [B]
      by_cases h0 : k = 0
      · rw [if_pos h0, if_pos h0]
      · rw [if_neg h0, if_neg h0, List.getElem?_eq_getElem (by omega)]
        rfl
    have hask : ∀ t, a ≤ t → t ≤ b → FSpec Tryz.prog 27 [p.av, .int .i64 t] [] (.tup [(thenF p t).av, .int .i64 0]) [] := by
      intro t h1 h2
      have hat : askT p t = 0 := by
        unfold askT
        rw [if_neg (by omega), if_neg (by omega)]
      have := atO_spec p t (Past.wf_seq hw)
      rw [if_pos ⟨hok, hat⟩, if_pos hok, hat] at this
      exact this
    refine between_walk p a b _ B (fun k => thenF p (B k)) ⟨by omega, hbm⟩ hTl rfl ?_ h5 ?_ ?_
    · intro k hk
      obtain ⟨h1, h2, h3, _⟩ := hB2 k hk
      exact ⟨hB1 k hk, h2, by omega, by omega⟩
    · intro k hk
      obtain ⟨h1, h2, h3, _⟩ := hB2 k hk
      exact hask _ h1 (by omega)
    · intro k hk
      obtain ⟨h1, h2, h3, h4⟩ := hB2 k hk
      have := hask (B (k + 1) - 1) (by omega) (by omega)
      have e : thenF p (B (k + 1) - 1) = thenF p (B k) := by unfold thenF; rw [h4]
      rw [e] at this
      exact this
  · rw [if_neg h] at h5
    generalize timesW p a b = W at *
    refine FSpec.of_flat (q := [(7, .m [.e [], .p [0], .e [29, 30], .p [0, 1], .p [0, 1], .p [0, 1], .a 0 2, .e [31, 35], .p [], .p [0, 1, 2]])]) Tryz.func7 (by kernel_rfl) rfl Tryz.ntmps7 Tryz.results7 hP (by kernel_rfl) (by simp) (by first | rfl | simp) ?_
    simp -implicitDefEqProofs
    first | refine CallK.same (lives21_spec) rfl rfl ?_ | refine CallQ.same (lives21_spec) rfl rfl ?_ | refine CallQG.same _ (lives21_spec) rfl ?_ | refine CallG.same _ (lives21_spec) rfl ?_ | refine CallK.pv (lives21_spec) rfl rfl ?_
    simp -implicitDefEqProofs
    first | refine CallK.same (h5) rfl rfl ?_ | refine CallQ.same (h5) rfl rfl ?_ | refine CallQG.same _ (h5) rfl ?_ | refine CallG.same _ (h5) rfl ?_ | refine CallK.pv (h5) rfl rfl ?_
    simp -implicitDefEqProofs [h]
end Go.Am

