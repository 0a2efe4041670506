import Derived.Test.YtnoggcmfnmmjcaaGreatT3
import Derived.Test.YtnoggcmfnmmjcaaGreatT5
set_option linter.unusedVariables false
set_option linter.unusedSimpArgs false
set_option pp.deepTerms false
set_option pp.deepTerms.threshold 40
namespace Go.Am
open Go.Proofs

/-! ### the court -/
def kmap {β : Type} (f : β → AV) (l : List (Int × β)) : List (Int × AV) := l.map fun p => (p.1, f p.2)
theorem midx_kmap {β : Type} (f : β → AV) : ∀ (l : List (Int × β)) (x : Int), (midx (kmap f l) x = none ↔ kget l x = none) ∧ ∀ i, midx (kmap f l) x = some i → ∃ v, kget l x = some v ∧ l[i]? = some (x, v) ∧ ∀ u, kput l x u = l.modify i fun p => (p.1, u)
  | [], x => ⟨by simp [kmap, midx, kget], fun i h => by simp [kmap, midx] at h⟩
  | (k, v) :: l, x => by
    obtain ⟨h1, h2⟩ := midx_kmap f l x
    have e : kmap f ((k, v) :: l) = (k, f v) :: kmap f l := rfl
    rw [e]
    by_cases hk : x = k
    · subst hk
      refine ⟨by simp [midx, kget], fun i hi => ?_⟩
      simp [midx] at hi
      subst hi
      exact ⟨v, by simp [kget], rfl, fun u => by simp [kput]⟩
    · refine ⟨by simp [midx, kget, hk, h1], fun i hi => ?_⟩
      simp only [midx, hk, if_false, Option.map_eq_some_iff] at hi
      obtain ⟨j, hj, rfl⟩ := hi
      obtain ⟨u, g1, g2, g3⟩ := h2 j hj
      exact ⟨u, by simp [kget, hk, g1], by simpa using g2, fun u => by simp [kput, hk, g3]⟩
theorem mget_kmap {β : Type} (f : β → AV) (l : List (Int × β)) (x : Int) : mget (kmap f l) x = (kget l x).map f := by
  obtain ⟨h1, h2⟩ := midx_kmap f l x
  unfold mget
  cases h : midx (kmap f l) x with
  | none => rw [h1.1 h]; rfl
  | some i =>
    obtain ⟨v, g1, g2, _⟩ := h2 i h
    rw [g1]
    simp [kmap, g2]
theorem mput_kmap {β : Type} (f : β → AV) (l : List (Int × β)) (x : Int) (v : β) : mput (kmap f l) x (f v) = kmap f (kput l x v) := by
  obtain ⟨h1, h2⟩ := midx_kmap f l x
  unfold mput
  cases h : midx (kmap f l) x with
  | none =>
    have hput : ∀ (l : List (Int × β)), kget l x = none → kput l x v = l ++ [(x, v)] := by
      intro l
      induction l with
      | nil => intro _; rfl
      | cons p l ih =>
        obtain ⟨k, u⟩ := p
        intro hg
        rw [kget] at hg
        split at hg
        · cases hg
        · rename_i hk
          simp [kput, hk, ih hg]
    rw [hput l (h1.1 h)]
    simp [kmap]
  | some i =>
    obtain ⟨u, g1, g2, g3⟩ := h2 i h
    rw [g3]
    simp only [kmap]
    have key : ∀ (l : List (Int × β)) (i : Nat), (l.map fun p => (p.1, f p.2)).modify i (fun y => (y.1, f v)) = (l.modify i fun p => (p.1, v)).map fun p => (p.1, f p.2) := by
      intro l
      induction l with
      | nil => intro i; simp
      | cons p l ih =>
        intro i
        cases i with
        | zero => simp
        | succ i => simp [ih i]
    exact key l i
theorem renM_kmap {β : Type} (ρ : Nat → Nat) (f : β → AV) (hf : ∀ b, (f b).pure = true) : ∀ l : List (Int × β), renM ρ (kmap f l) = kmap f l
  | [] => rfl
  | (k, v) :: l => by
    have ih := renM_kmap ρ f hf l
    show (k, (f v).ren ρ) :: renM ρ (kmap f l) = (k, f v) :: kmap f l
    rw [ih, AV.pure_ren ρ _ (hf v)]
@[simp] theorem renM_hop (ρ : Nat → Nat) (l : List (Int × Hop)) : renM ρ (kmap Hop.av l) = kmap Hop.av l := renM_kmap ρ _ (fun _ => rfl) l
@[simp] theorem renM_verd (ρ : Nat → Nat) (l : List (Int × Verd)) : renM ρ (kmap Verd.av l) = kmap Verd.av l := renM_kmap ρ _ (fun _ => rfl) l
theorem setK_app (v : Verd) : ∀ (l t : List Int) (kn : List (Int × Verd)), setK v (l ++ t) kn = setK v t (setK v l kn)
  | [], t, kn => rfl
  | x :: l, t, kn => by rw [List.cons_append, setK, setK, setK_app v l t]
theorem setK_take (v : Verd) (kn : List (Int × Verd)) (l : List Int) (k : Nat) (h : k < l.length) : setK v (l.take (k + 1)) kn = kput (setK v (l.take k) kn) l[k] v := by
  rw [List.take_add_one, List.getElem?_eq_getElem h, setK_app]; rfl
theorem rndK_app : ∀ (l t : List Int) (kn : List (Int × Verd)), rndK (l ++ t) kn = rndK t (rndK l kn)
  | [], t, kn => rfl
  | x :: l, t, kn => by rw [List.cons_append, rndK, rndK, rndK_app l t]
theorem rndK_take (kn : List (Int × Verd)) (l : List Int) (k : Nat) (h : k < l.length) : rndK (l.take (k + 1)) kn = kput (rndK (l.take k) kn) l[k] ⟨4, l[k]⟩ := by
  rw [List.take_add_one, List.getElem?_eq_getElem h, rndK_app]; rfl
/-- .. with a row of loops that has moved. -/
def courtN (hs : List (Int × Hop)) (s : Court) : List AObj := [.box 101 [.map 1, .map 2, .row 4], .mp .i64 (kmap Hop.av hs), .mp .i64 (kmap Verd.av s.1), .gone, .row 37 1 (rowL s.2)]
def courtO (hs : List (Int × Hop)) (s : Court) : List AObj := [.box 101 [.map 1, .map 2, .row 3], .mp .i64 (kmap Hop.av hs), .mp .i64 (kmap Verd.av s.1), .row 37 1 (rowL s.2)]
theorem settle_spec (hs : List (Int × Hop)) (s : Court) (way : List Int) (v : Verd) : FSpec Tryz.prog 113 [.ptr 0 0, .im (.sl 1 (rowI way)), v.av] (courtO hs s) (.tup []) (courtO hs (setK v way s.1, s.2)) := by
  refine FSpec.bd (enters_of Tryz.func113 (by kernel_rfl) rfl) fun hbd => ?_
  have hl : way.length ≤ 9223372036854775807 := by simp [maxLen] at hbd; exact hbd.1
  refine FSpec.of_o (q := [(4, .n 6)]) Tryz.func113 (by kernel_rfl) rfl Tryz.ntmps113 Tryz.results113 hP (by kernel_rfl) (by simp) (by first | rfl | simp) ?_
  simp [courtO]
  refine LoopK.os (fun k : Nat => [(0, .ptr 0 0), (5, .ptr 4 0), (8, .im (.sl 1 (rowI way))), (9, .int .i64 way.length), (10, .int .i64 k)])
    (fun k => [.box 101 [.map 1, .map 2, .row 3], .mp .i64 (kmap Hop.av hs), .mp .i64 (kmap Verd.av (setK v (way.take k) s.1)), .row 37 1 (rowL s.2), .box 46 [.int .u8 v.kind, .int .i64 v.at_]])
    (fun k => k ≤ way.length) (fun k => way.length - k) 0 [0, 1, 2, 3, 4] (Nat.zero_le _) (by simp [setK]) ?_
  intro k hk
  by_cases hlt : k < way.length
  · have e1 : IntKind.i64.wrap (k + 1) = (k + 1 : Nat) := wrap64 (by omega) (by omega)
    have hg := rowI_get way k _ (List.getElem?_eq_getElem hlt)
    have hst := setK_take v s.1 way k hlt
    have hput := mput_kmap Verd.av (setK v (way.take k) s.1) way[k] v
    simp only [Verd.av] at hput
    simp [hlt, e1, hg, hput]
    refine Again.os (k + 1) [0, 1, 2, 3, 4] hlt (by omega) ?_
    simp [hst]
  · have hkk : k = way.length := by omega
    subst hkk
    simp
    refine EndO.normal [] [0, 1, 2, 3] (.tup []) (by simp) ?_
    simp
theorem onL_min {l : List Int} (h : l ≠ []) : 0 ≤ onL l (minL l) 0 ∧ onL l (minL l) 0 < l.length := by
  have h1 := (onL_neg l (minL l) 0 (Int.le_refl _)).2 (minL_mem h).1
  have := onL_lt l (minL l) 0 (Int.le_refl _) h1
  omega
theorem round_spec_ (hs : List (Int × Hop)) (s : Court) (l : List Int) (hne : l ≠ []) (hlen : l.length ≤ 200) (hlp : s.2.length ≤ 200) : FSpec Tryz.prog 115 [.ptr 0 0, .im (.sl 1 (rowI l))] (courtO hs s) (.tup []) (courtN hs (rndK l s.1, s.2 ++ [rotM l])) := by
  refine FSpec.of_o (q := [(6, .m [.p [1, 2, 3, 4], .p [1, 2, 3], .p [1, 2, 3], .p [1, 2, 3], .p [1, 2, 3], .p [], .p [], .p [], .p [], .p [], .p [], .e [32, 35], .e [36], .e [37], .e [29, 38]])]) Tryz.func115 (by kernel_rfl) rfl Tryz.ntmps115 Tryz.results115 hP (by kernel_rfl) (by simp) (by first | rfl | simp) ?_
  simp [courtO, courtN]
  refine LoopK.os (fun k : Nat => [(0, .ptr 0 0), (1, .im (.sl 1 (rowI l))), (7, .im (.sl 1 (rowI l))), (8, .int .i64 l.length), (9, .int .i64 k)])
    (fun k => [.box 101 [.map 1, .map 2, .row 3], .mp .i64 (kmap Hop.av hs), .mp .i64 (kmap Verd.av (rndK (l.take k) s.1)), .row 37 1 (rowL s.2)])
    (fun k => k ≤ l.length) (fun k => l.length - k) 0 [0, 1, 2, 3] (Nat.zero_le _) (by simp [rndK]) ?_
  intro k hk
  by_cases hlt : k < l.length
  · have e1 : IntKind.i64.wrap (k + 1) = (k + 1 : Nat) := wrap64 (by omega) (by omega)
    have hg := rowI_get l k _ (List.getElem?_eq_getElem hlt)
    have hst := rndK_take s.1 l k hlt
    have hput := mput_kmap Verd.av (rndK (l.take k) s.1) l[k] ⟨4, l[k]⟩
    simp only [Verd.av] at hput
    simp [hlt, e1, hg, hput]
    refine Again.os (k + 1) [0, 1, 2, 3] hlt (by omega) ?_
    simp [hst]
  · have hkk : k = l.length := by omega
    subst hkk
    simp
    first | refine CallK.same (minS_spec l hne) rfl rfl ?_ | refine CallQ.same (minS_spec l hne) rfl rfl ?_ | refine CallQG.same _ (minS_spec l hne) rfl ?_ | refine CallG.same _ (minS_spec l hne) rfl ?_ | refine CallK.pv (minS_spec l hne) rfl rfl ?_
    simp
    first | refine CallK.same (indexI_spec l (minL l)) rfl rfl ?_ | refine CallQ.same (indexI_spec l (minL l)) rfl rfl ?_ | refine CallQG.same _ (indexI_spec l (minL l)) rfl ?_ | refine CallG.same _ (indexI_spec l (minL l)) rfl ?_ | refine CallK.pv (indexI_spec l (minL l)) rfl rfl ?_
    simp
    obtain ⟨g1, g2⟩ := onL_min hne
    refine ⟨⟨g1, by omega⟩, ?_⟩
    have hcat : FSpec Tryz.prog 158 [.im (.sl 1 [[.sl 1 (List.drop (onL l (minL l) 0).toNat (List.take l.length (rowI l)))], [.sl 1 (List.take (onL l (minL l) 0).toNat (rowI l))]])] [] (.im (.sl 1 (rowI (rotM l)))) [] := by
      rw [show List.take l.length (rowI l) = rowI l by rw [← rowI_length l, List.take_length]]
      have := concat_spec [l.drop (onL l (minL l) 0).toNat, l.take (onL l (minL l) 0).toNat] (by simp [sumL]; omega) (by simp)
      simpa [rowL, rowI, rotM] using this
    have hrl : (rowL (s.2 ++ [rotM l])) = rowL s.2 ++ [[.sl 1 (rowI (rotM l))]] := by simp [rowL]
    refine CallK.val [4] hcat rfl (by simp) rfl ?_ ?_
    all_goals
      simp
      refine ⟨⟨by omega, by unfold maxLen; omega⟩, ?_⟩
      refine EndO.normal [] [0, 1, 2, 3, 6] (.tup []) (by simp) ?_
      simp [hrl]

set_option maxRecDepth 8000 in
theorem judgeJ_spec (hs : List (Int × Hop)) (s : Court) (H : Int → Hop) (l : List Int) (r : Int) (hH : ∀ x, (kget hs x).getD ⟨0, 0⟩ = H x) (hl : ∀ x, moves H x → x ∈ l) (hk : ∀ x, (H x).kind = 0 ∨ (H x).kind = 1 ∨ (H x).kind = 2 ∨ (H x).kind = 3) (hlen : l.length ≤ 100) (hlp : s.2.length ≤ 200) :
    FSpec Tryz.prog 79 [.ptr 0 0, .int .i64 r] (courtO hs s) (.tup []) (courtN hs (judgeF H (l.length + 2) [] r s)) := by
  refine FSpec.of_o (q := [(8, .n 10)]) Tryz.func79 (by kernel_rfl) rfl Tryz.ntmps79 Tryz.results79 hP (by kernel_rfl) (by simp) (by first | rfl | simp) ?_
  simp [courtO, courtN]
  refine LoopK.nil (.sl 4 3 1) ?_
  simp
  have hr0 : roundsI l [] ≤ l.length := List.countP_le_length
  refine LoopK.os (fun g : List Int × Int × Nat => [(0, .ptr 0 0), (4, .row 4), (5, .int .i64 g.2.1)])
    (fun g => [.box 101 [.map 1, .map 2, .row 3], .mp .i64 (kmap Hop.av hs), .mp .i64 (kmap Verd.av s.1), .row 37 1 (rowL s.2), .row 3 1 (rowI g.1)])
    (fun g => roundsI l g.1 + 1 < g.2.2 ∧ g.1.length + g.2.2 = l.length + 2 ∧ judgeF H g.2.2 g.1 g.2.1 s = judgeF H (l.length + 2) [] r s) (fun g => g.2.2) ([], r, l.length + 2) [0, 1, 2, 3, 4] ⟨by simp only; omega, by simp, rfl⟩ (by simp [rowI]) ?_
  rintro ⟨way, x, f⟩ ⟨hf, hw, hR⟩
  simp only at hf hw hR
  obtain ⟨f, rfl⟩ : ∃ f', f = f' + 1 := ⟨f - 1, by omega⟩
  generalize judgeF H (l.length + 2) [] r s = RES at *
  rw [judgeF] at hR
  have hgk := mget_kmap Verd.av s.1 x
  have hgh : (mget (kmap Hop.av hs) x).getD (.agg [.int .u8 0, .int .i64 0]) = (H x).av := by
    rw [mget_kmap, ← hH x]
    cases kget hs x <;> rfl
  cases hx : kget s.1 x with
  | some v =>
    rw [hx] at hR hgk
    simp only at hR
    subst hR
    simp [hgk]
    refine CallO.mk [4] [0, 1, 2, 3] (settle_spec hs s way v) (by simp) rfl (by simp [courtO]) (by simp [courtO]) (by simp) ?_
    simp [courtO]
    refine EndO.nilR (.mv 0 2) ?_
    simp
    refine EndO.ret [] [0, 1, 2, 3, 6] (.tup []) (by simp) ?_
    simp
  | none =>
    rw [hx] at hR hgk
    simp only at hR
    simp [hgk]
    refine CallK.fz [4] (indexI_spec way x) (by simp) (by simp) rfl ?_
    simp
    refine ⟨fun hon => ?_, fun hon => ?_⟩
    · rw [if_pos hon] at hR
      subst hR
      have hxw := (onL_neg _ _ _ (Int.le_refl _)).1 hon
      have hlt := onL_lt way x 0 (Int.le_refl _) hon
      obtain ⟨i, hi⟩ : ∃ i : Nat, onL way x 0 = i := ⟨(onL way x 0).toNat, by omega⟩
      have hi2 : i < way.length := by omega
      rw [hi]
      simp [hi2]
      refine ⟨by omega, ?_⟩
      refine CallX.pre (.fz [4]) ?_
      simp
      have hdr : List.take (way.length - i) (List.drop i (rowI way)) = rowI (way.drop i) := by
        rw [← rowI_length way, ← List.length_drop, List.take_length]
        simp [rowI]
      have htk : List.take i (rowI way) = rowI (way.take i) := by simp [rowI]
      refine CallO.mk [] [0, 1, 2, 3] (round_spec_ hs s (way.drop i) (by simp; omega) (by simp; omega) hlp) (by simp) rfl (by simp [courtO, courtN]) (by simp [courtO]) ?_ ?_
      · have hc : i + (way.length - i) ≤ way.length := by omega
        simp [hdr, hc]
      · have hgk2 := mget_kmap Verd.av (rndK (way.drop i) s.1) x
        have hv : kget (rndK (way.drop i) s.1) x = some ⟨4, x⟩ := by
          rw [kget_rnd, if_pos]
          obtain ⟨a, b, h1, h2, h3⟩ := onL_split 0 hxw
          have : i = a.length := by omega
          subst this
          rw [h1]; simp
        rw [hv] at hgk2
        simp [courtN, hgk2, hi2, htk]
        refine ⟨by omega, ?_⟩
        have hcn : courtO hs (rndK (way.drop i) s.1, s.2 ++ [rotM (way.drop i)]) = courtO hs (rndK (way.drop i) s.1, s.2 ++ [rotM (way.drop i)]) := rfl
        refine CallO.mk [] [0, 1, 2, 6] (settle_spec hs (rndK (way.drop i) s.1, s.2 ++ [rotM (way.drop i)]) (way.take i) ⟨4, x⟩) (by simp) rfl (by simp [courtO]) (by simp [courtO]) (by simp) ?_
        simp [courtO]
        refine EndO.ret [] [0, 1, 2, 3, 6] (.tup []) (by simp) ?_
        simp [hv]
    · rw [if_neg (by omega)] at hR
      simp [hgh]
      have hrw : rowI (way ++ [x]) = rowI way ++ [[.sc (.int .i64 x)]] := by simp [rowI]
      refine ⟨⟨by omega, by unfold maxLen; omega⟩, fun hk1 => ?_, fun hk1 => ?_⟩
      · rw [if_neg hk1] at hR
        subst hR
        first | refine CallK.same (ends_spec (H x) x) rfl rfl ?_ | refine CallQ.same (ends_spec (H x) x) rfl rfl ?_ | refine CallQG.same _ (ends_spec (H x) x) rfl ?_ | refine CallG.same _ (ends_spec (H x) x) rfl ?_ | refine CallK.pv (ends_spec (H x) x) rfl rfl ?_
        simp
        refine CallX.pre (.fz [8]) ?_
        simp
        refine CallO.mk [] [0, 1, 2, 3] (settle_spec hs s (way ++ [x]) (endsF (H x) x)) (by simp) rfl (by simp [courtO]) (by simp [courtO]) (by simp [hrw]) ?_
        simp [courtO]
        refine EndO.nilR (.mv 0 2) ?_
        simp
        refine EndO.ret [] [0, 1, 2, 3, 9] (.tup []) (by simp) ?_
        simp
      · rw [if_pos hk1] at hR
        have hxw : ¬ x ∈ way := fun h' => by have := (onL_neg way x 0 (Int.le_refl _)).2 h'; omega
        have hst := roundsI_step (hl x ⟨by omega, by omega, by omega⟩) hxw
        refine Again.os (way ++ [x], (H x).peer, f) [0, 1, 2, 3, 8] ⟨by simp only; omega, by simp; omega, hR⟩ (by simp only; omega) ?_
        simp [hrw]
end Go.Am

set_option linter.unusedVariables false
set_option linter.unusedSimpArgs false
set_option pp.deepTerms false
set_option pp.deepTerms.threshold 40
namespace Go.Am
open Go.Proofs

/-! ### the court sits -/
theorem judgeF_len (H : Int → Hop) : ∀ (f : Nat) (way : List Int) (x : Int) (s : Court), (judgeF H f way x s).2.length ≤ s.2.length + 1
  | 0, _, _, s => by simp [judgeF]
  | f + 1, way, x, s => by
    rw [judgeF]
    split
    · simp
    · split
      · simp
      · split
        · exact judgeF_len H f _ _ s
        · simp
theorem sitF_snoc (H : Int → Hop) (f : Nat) : ∀ (l : List Int) (x : Int) (s : Court), sitF H f (l ++ [x]) s = judgeF H f [] x (sitF H f l s)
  | [], x, s => rfl
  | y :: l, x, s => by rw [List.cons_append, sitF, sitF_snoc H f l, sitF]
theorem sitF_len (H : Int → Hop) (f : Nat) : ∀ (l : List Int) (s : Court), (sitF H f l s).2.length ≤ s.2.length + l.length
  | [], s => by simp [sitF]
  | y :: l, s => by
    have h1 := sitF_len H f l (judgeF H f [] y s)
    have h2 := judgeF_len H f [] y s
    rw [sitF]
    simp; omega
@[simp] theorem kmap_nil {β : Type} (f : β → AV) : kmap f [] = [] := rfl
@[simp] theorem renM_nil (ρ : Nat → Nat) : renM ρ ([] : List (Int × AV)) = [] := rfl
def idsN (n : Net) : List Int := n.routers.map Router.id
def hopN (n : Net) (six : Bool) (a : Addr4) : Int → Hop := fun x => doesF n x six a
def hopsK (H : Int → Hop) : List Int → List (Int × Hop) → List (Int × Hop)
  | [], m => m
  | x :: l, m => hopsK H l (kput m x (H x))
theorem hopsK_app (H : Int → Hop) : ∀ (l t : List Int) (m : List (Int × Hop)), hopsK H (l ++ t) m = hopsK H t (hopsK H l m)
  | [], t, m => rfl
  | x :: l, t, m => by rw [List.cons_append, hopsK, hopsK, hopsK_app H l t]
theorem kget_hops (H : Int → Hop) : ∀ (l : List Int) (m : List (Int × Hop)) (y : Int), kget (hopsK H l m) y = if y ∈ l then some (H y) else kget m y
  | [], m, y => by simp [hopsK]
  | x :: l, m, y => by
    rw [hopsK, kget_hops H l, kget_put]
    by_cases h1 : y ∈ l
    · simp [h1]
    · by_cases h2 : y = x
      · subst h2; simp
      · simp [h1, h2]
theorem hopN_out {n : Net} {six : Bool} {a : Addr4} {x : Int} (h : x ∉ idsN n) : hopN n six a x = ⟨0, 0⟩ := by
  unfold hopN doesF
  cases hr : routerF n.routers x with
  | none => rfl
  | some r =>
    exfalso
    have hm := List.mem_of_find?_eq_some hr
    have hp := List.find?_some hr
    simp at hp
    exact h (List.mem_map.2 ⟨r, hm, hp⟩)
theorem hopN_moves (n : Net) (six : Bool) (a : Addr4) (x : Int) (h : moves (hopN n six a) x) : x ∈ idsN n := by
  apply Classical.byContradiction
  intro hx
  rw [moves, hopN_out hx] at h
  exact h.1 rfl
theorem hopF_kind (r : Router) (six : Bool) (a : Addr4) : (hopF r six a).kind = 0 ∨ (hopF r six a).kind = 1 ∨ (hopF r six a).kind = 2 ∨ (hopF r six a).kind = 3 := by
  unfold hopF
  repeat' split
  all_goals simp
theorem hopN_kind (n : Net) (six : Bool) (a : Addr4) (x : Int) : (hopN n six a x).kind = 0 ∨ (hopN n six a x).kind = 1 ∨ (hopN n six a x).kind = 2 ∨ (hopN n six a x).kind = 3 := by
  unfold hopN doesF
  split
  · simp
  · exact hopF_kind _ _ _
def sitN (n : Net) (six : Bool) (a : Addr4) : Court := sitF (hopN n six a) ((idsN n).length + 2) (idsN n) ([], [])
def hopsN (n : Net) (six : Bool) (a : Addr4) : List (Int × Hop) := hopsK (hopN n six a) (idsN n) []
theorem idsN_take (n : Net) (k : Nat) (h : k < n.routers.length) : (idsN n).take (k + 1) = (idsN n).take k ++ [n.routers[k].id] := by
  unfold idsN
  rw [List.take_add_one, List.getElem?_map, List.getElem?_eq_getElem h]
  rfl
theorem hopsN_get (n : Net) (six : Bool) (a : Addr4) (x : Int) : (kget (hopsN n six a) x).getD ⟨0, 0⟩ = hopN n six a x := by
  unfold hopsN
  rw [kget_hops]
  split
  · rfl
  · rename_i h
    rw [hopN_out h]; rfl
set_option maxRecDepth 8000 in
theorem sit_spec (n : Net) (six : Bool) (a : Addr4) (hok : netOk n = true) (hw : n.wf) (ha : a.wf) (hr : rightA six a = true) :
    FSpec Tryz.prog 47 [n.av, .bool six, a.av] [] (.ptr 0 0) (courtO (hopsN n six a) (sitN n six a)) := by
  have hlen := netOk_len hok
  have hidl : (idsN n).length = n.routers.length := by simp [idsN]
  refine FSpec.of_o (q := [(5, .n 12)]) Tryz.func47 (by kernel_rfl) rfl Tryz.ntmps47 Tryz.results47 hP (by kernel_rfl) (by simp) (by first | rfl | simp) ?_
  simp
  refine LoopK.nil (.cl 4 2 37 1) ?_
  simp
  refine LoopK.os (fun k : Nat => [(1, .bool six), (3, .ptr 0 0), (5, .ptr 1 0), (7, .ptr 4 0), (17, .im (.sl 4 (n.routers.map Router.iv))), (18, .int .i64 n.routers.length), (19, .int .i64 k)])
    (fun k => [.box 25 [.im (.sl 4 (n.seats.map Seat.iv)), .im (.sl 4 (n.routers.map Router.iv))], .box 28 [.int .u64 a.hi, .int .u64 a.lo], .mp .i64 (kmap Hop.av (hopsK (hopN n six a) ((idsN n).take k) [])), .mp .i64 [], .box 101 [.map 2, .map 3, .row 5], .row 37 1 []])
    (fun k => k ≤ n.routers.length) (fun k => n.routers.length - k) 0 [0, 1, 2, 3, 4, 5] (Nat.zero_le _) (by simp [hopsK]) ?_
  intro k hk
  by_cases hlt : k < n.routers.length
  · have e1 : IntKind.i64.wrap (k + 1) = (k + 1 : Nat) := wrap64 (by omega) (by omega)
    have htk := idsN_take n k hlt
    have hput := mput_kmap Hop.av (hopsK (hopN n six a) ((idsN n).take k) []) n.routers[k].id (hopN n six a n.routers[k].id)
    have hst : hopsK (hopN n six a) ((idsN n).take (k + 1)) [] = kput (hopsK (hopN n six a) ((idsN n).take k) []) n.routers[k].id (hopN n six a n.routers[k].id) := by
      rw [htk, hopsK_app]; rfl
    simp [hlt]
    generalize n.routers[k] = y at *
    have hd := doesN_spec n y.id six a hok hw ha hr
    first | refine CallK.same (hd) rfl rfl ?_ | refine CallQ.same (hd) rfl rfl ?_ | refine CallQG.same _ (hd) rfl ?_ | refine CallG.same _ (hd) rfl ?_ | refine CallK.pv (hd) rfl rfl ?_
    simp [hopN] at hput
    simp [e1, hput]
    refine Again.os (k + 1) [0, 1, 2, 3, 4, 5] hlt (by omega) ?_
    simp [hst, hopN]
  · have hkk : k = n.routers.length := by omega
    subst hkk
    have htl : (idsN n).take n.routers.length = idsN n := by rw [← hidl, List.take_length]
    simp [htl]
    refine LoopK.os (fun k : Nat => [(1, .bool six), (3, .ptr 0 0), (5, .ptr 1 0), (7, .ptr 4 0), (37, .im (.sl 4 (n.routers.map Router.iv))), (38, .int .i64 n.routers.length), (39, .int .i64 k)])
      (fun k => [.box 25 [.im (.sl 4 (n.seats.map Seat.iv)), .im (.sl 4 (n.routers.map Router.iv))], .box 28 [.int .u64 a.hi, .int .u64 a.lo], .mp .i64 (kmap Hop.av (hopsN n six a)), .mp .i64 (kmap Verd.av (sitF (hopN n six a) ((idsN n).length + 2) ((idsN n).take k) ([], [])).1), .box 101 [.map 2, .map 3, .row 5], .row 37 1 (rowL (sitF (hopN n six a) ((idsN n).length + 2) ((idsN n).take k) ([], [])).2)])
      (fun k => k ≤ n.routers.length) (fun k => n.routers.length - k) 0 [0, 1, 2, 3, 4, 5] (Nat.zero_le _) (by simp [hopsN, sitF, rowL]) ?_
    clear hk hlt
    intro k hk
    by_cases hlt : k < n.routers.length
    · have e1 : IntKind.i64.wrap (k + 1) = (k + 1 : Nat) := wrap64 (by omega) (by omega)
      have htk := idsN_take n k hlt
      have hst : sitF (hopN n six a) ((idsN n).length + 2) ((idsN n).take (k + 1)) ([], []) = judgeF (hopN n six a) ((idsN n).length + 2) [] n.routers[k].id (sitF (hopN n six a) ((idsN n).length + 2) ((idsN n).take k) ([], [])) := by
        rw [htk, sitF_snoc]
      have hsl := sitF_len (hopN n six a) ((idsN n).length + 2) ((idsN n).take k) ([], [])
      simp [hlt]
      generalize n.routers[k] = y at *
      generalize hS : sitF (hopN n six a) ((idsN n).length + 2) ((idsN n).take k) ([], []) = S at *
      refine CallO.mk [] [4, 2, 3, 5] (judgeJ_spec (hopsN n six a) S (hopN n six a) (idsN n) y.id (hopsN_get n six a) (hopN_moves n six a) (hopN_kind n six a) (by omega) (by simp at hsl; omega)) (by simp) rfl (by simp [courtO, courtN]) (by simp [courtO]) (by simp) ?_
      simp [courtN, e1]
      refine Again.os (k + 1) [0, 1, 2, 3, 4, 7] hlt (by omega) ?_
      simp [hst]
    · have hkk : k = n.routers.length := by omega
      subst hkk
      simp [htl]
      refine EndO.ret [] [4, 2, 3, 5] (.ptr 4 0) (by simp) ?_
      simp [courtO, sitN]
end Go.Am

set_option linter.unusedVariables false
set_option linter.unusedSimpArgs false
set_option pp.deepTerms false
set_option pp.deepTerms.threshold 40
namespace Go.Am
open Go.Proofs

/-! ### all routers' fates -/
theorem wayN_goes (n : Net) (six : Bool) (a : Addr4) (r : Int) : Goes (hopN n six a) [r] r (wayN n six a r) := by
  have h1 : roundsI (idsN n) [r] ≤ (idsN n).length := List.countP_le_length
  have h2 : (idsN n).length = n.routers.length := by simp [idsN]
  exact wayF_goes (hopN_moves n six a) _ _ _ (by simp) (by omega)
theorem sitN_ok (n : Net) (six : Bool) (a : Addr4) : Court.Ok (hopN n six a) (sitN n six a) ∧ ∀ y ∈ idsN n, (kget (sitN n six a).1 y).isSome = true := by
  have := Court.Ok.sit (hopN_moves n six a) (hopN_kind n six a) (f := (idsN n).length + 2) (by omega) (idsN n) (Court.ok0 (H := hopN n six a))
  exact ⟨this.1, this.2.1⟩
theorem sitN_get (n : Net) (six : Bool) (a : Addr4) {y : Router} (hy : y ∈ n.routers) : kget (sitN n six a).1 y.id = some (wayN n six a y.id).2 := by
  obtain ⟨h1, h2⟩ := sitN_ok n six a
  obtain ⟨v, hv⟩ := Option.isSome_iff_exists.1 (h2 y.id (List.mem_map.2 ⟨y, hy, rfl⟩))
  obtain ⟨w, hg⟩ := h1.right _ _ hv
  rw [hv, (wayN_goes n six a y.id).det hg]
set_option maxRecDepth 8000 in
theorem fatesJ_spec (n : Net) (six : Bool) (a : Addr4) (hw : n.wf) (ha : a.wf) :
    FSpec Tryz.prog 13 [n.av, .bool six, a.av] [] (.tup [.im (.sl 3 ((fatesN n six a).map Fate.iv)), .int .i64 (if rightN n six a then 0 else 2)]) [] := by
  refine FSpec.of_z (q := [(8, .m [.p [1], .p [], .p [], .p [], .p [], .p [], .p [], .p [], .p [], .p [], .p [], .e [38]])]) Tryz.func13 (by kernel_rfl) rfl Tryz.ntmps13 Tryz.results13 hP (by kernel_rfl) (by simp) (by first | rfl | simp) ?_
  simp
  first | refine CallK.same (rightJ_spec n six a) rfl rfl ?_ | refine CallQ.same (rightJ_spec n six a) rfl rfl ?_ | refine CallQG.same _ (rightJ_spec n six a) rfl ?_ | refine CallG.same _ (rightJ_spec n six a) rfl ?_ | refine CallK.pv (rightJ_spec n six a) rfl rfl ?_
  simp
  cases e : rightN n six a with
  | false =>
    simp
    refine EndZ.ret [] (.tup [.im (.sc (.slice none 0 0)), .int .i64 2]) (by simp) ?_
    simp [fatesN, e]
  | true =>
    have h1 : netOk n = true := by unfold rightN at e; simp at e; exact e.1
    have h2 : rightA six a = true := by unfold rightN at e; simp at e; exact e.2
    have hlen := netOk_len h1
    simp
    refine CallK.outs [] (sit_spec n six a h1 hw ha h2) rfl ?_ ?_ ?_
    · simp
    · simp [AV.flat]
    simp [courtO]
    refine LoopK.nil (.sl 9 48 3) ?_
    simp
    simp only [fatesN, e, if_true]
    refine LoopK.os (fun k : Nat => [(1, .bool six), (3, .ptr 0 0), (5, .ptr 1 0), (8, .ptr 2 0), (9, .row 4), (22, .im (.sl 4 (n.routers.map Router.iv))), (23, .int .i64 n.routers.length), (24, .int .i64 k)])
      (fun k => [.box 25 [.im (.sl 4 (n.seats.map Seat.iv)), .im (.sl 4 (n.routers.map Router.iv))], .box 28 [.int .u64 a.hi, .int .u64 a.lo], .box 101 [.undef, .map 3, .undef], .mp .i64 (kmap Verd.av (sitN n six a).1), .row 48 3 (fatesK n six a k)])
      (fun k => k ≤ n.routers.length) (fun k => n.routers.length - k) 0 [0, 1, 2, 4, 6] (Nat.zero_le _) (by simp [fatesK_zero]) ?_
    intro k hk
    by_cases hlt : k < n.routers.length
    · have e1 : IntKind.i64.wrap (k + 1) = (k + 1 : Nat) := wrap64 (by omega) (by omega)
      have hg := List.getElem?_eq_getElem hlt
      have hs := fatesK_succ n six a hg
      have hget := sitN_get n six a (List.getElem_mem hlt)
      have hmg := mget_kmap Verd.av (sitN n six a).1 n.routers[k].id
      rw [hget] at hmg
      simp [hlt]
      generalize n.routers[k] = y at *
      simp at hmg
      simp [hmg, e1]
      refine ⟨⟨by omega, by unfold maxLen; omega⟩, ?_⟩
      refine Again.os (k + 1) [0, 1, 2, 3, 7] hlt (by omega) ?_
      simp [hs]
    · have hkk : k = n.routers.length := by omega
      subst hkk
      simp
      refine EndZ.ret [4] (.tup [.row 4, .int .i64 0]) (by simp) ?_
      simp [fatesK_all]
end Go.Am

set_option linter.unusedVariables false
set_option linter.unusedSimpArgs false
set_option pp.deepTerms false
set_option pp.deepTerms.threshold 40
namespace Go.Am
open Go.Proofs

/-! ### loops, in order -/
def keyL : List IV → Int
  | [.sl _ ([.sc (.int _ v)] :: _)] => v
  | _ => 0
theorem keyL_row (l : List Int) : keyL [.sl 1 (rowI l)] = headI l := by
  cases l <;> rfl
def unrow : List IV → List Int
  | [.sl _ rows] => rows.map fun x => match x with | [.sc (.int _ v)] => v | _ => 0
  | _ => []
theorem unrow_row (l : List Int) : unrow [.sl 1 (rowI l)] = l := by
  simp [unrow, rowI, Function.comp_def]
theorem rowL_perm {ys : List (List IV)} {L : List (List Int)} (h : ys.Perm (rowL L)) : ys = rowL (ys.map unrow) ∧ (ys.map unrow).Perm L := by
  constructor
  · unfold rowL
    rw [List.map_map]
    conv => lhs; rw [← List.map_id ys]
    refine List.map_congr_left fun y hy => ?_
    have := h.mem_iff.1 hy
    unfold rowL at this
    obtain ⟨l, _, rfl⟩ := List.mem_map.1 this
    simp [unrow_row]
  · have := h.map unrow
    unfold rowL at this
    rw [List.map_map] at this
    have e : (unrow ∘ fun x => [IV.sl 1 (rowI x)]) = id := by funext x; exact unrow_row x
    rw [e, List.map_id] at this
    exact this
theorem cmpLoops_spec (a b : List Int) (ha : a ≠ []) (hb : b ≠ []) (ha1 : 0 ≤ headI a ∧ headI a ≤ 1048576) (hb1 : 0 ≤ headI b ∧ headI b ≤ 1048576) :
    FSpec Tryz.prog 52 [.im (.sl 1 (rowI a)), .im (.sl 1 (rowI b))] [] (.int .i64 (headI a - headI b)) [] := by
  obtain ⟨x, a, rfl⟩ : ∃ x t, a = x :: t := by cases a with | nil => exact absurd rfl ha | cons x t => exact ⟨x, t, rfl⟩
  obtain ⟨y, b, rfl⟩ : ∃ x t, b = x :: t := by cases b with | nil => exact absurd rfl hb | cons x t => exact ⟨x, t, rfl⟩
  simp only [headI, List.head?_cons, Option.getD_some] at *
  have e1 : IntKind.i64.wrap (x - y) = x - y := wrap64 (by omega) (by omega)
  refine FSpec.of_flat (q := [(1, .n 6)]) Tryz.func52 (by kernel_rfl) rfl Tryz.ntmps52 Tryz.results52 hP (by kernel_rfl) (by simp) (by first | rfl | simp) ?_
  simp [rowI, e1]
theorem loopsL_mem (n : Net) (six : Bool) (a : Addr4) (L : List Int) : ∀ l : List Router, L ∈ loopsL n six a l ↔ ∃ r ∈ l, leastB (roundF (wayN n six a r.id)) r.id = true ∧ L = roundF (wayN n six a r.id)
  | [] => by simp [loopsL]
  | r :: l => by
    rw [loopsL]
    split
    · rename_i h
      simp [loopsL_mem n six a L l, h]
    · rename_i h
      simp [loopsL_mem n six a L l, h]
theorem loopsL_order (n : Net) (six : Bool) (a : Addr4) : ∀ {l : List Router}, (l.Pairwise fun x y => x.id < y.id) → (loopsL n six a l).Pairwise fun x y => headI x < headI y
  | [], _ => List.Pairwise.nil
  | r :: l, h => by
    have ih := loopsL_order n six a (List.Pairwise.of_cons h)
    rw [loopsL]
    split
    · rename_i hl
      refine List.Pairwise.cons (fun L hL => ?_) ih
      obtain ⟨r', hr', hl', rfl⟩ := (loopsL_mem n six a L l).1 hL
      have h1 := (leastB_iff.1 hl).1
      have h2 := (leastB_iff.1 hl').1
      unfold headI
      rw [h1, h2]
      exact List.rel_of_pairwise_cons h hr'
    · exact ih
theorem loops_sorted (n : Net) (six : Bool) (a : Addr4) (hok : netOk n = true) (ys : List (List IV)) (hp : ys.Perm (rowL (sitN n six a).2)) (hs : ys.Pairwise fun x y => keyL x ≤ keyL y) : ys = rowL (loopsL n six a n.routers) := by
  obtain ⟨h1, h2⟩ := sitN_ok n six a
  obtain ⟨e, hp'⟩ := rowL_perm hp
  generalize ys.map unrow = L' at *
  subst e
  congr 1
  have hd : L'.Pairwise fun x y => headI x ≠ headI y := (hp'.pairwise_iff (fun h => Ne.symm h)).2 h1.heads
  refine heads_eq ?_ (loopsL_order n six a (netOk_routers hok).1) fun L => ?_
  · unfold rowL at hs
    rw [List.pairwise_map] at hs
    simp only [keyL_row] at hs
    exact (hs.and hd).imp fun ⟨h1, h2⟩ => by omega
  · rw [hp'.mem_iff, h1.loops_iff h2 (hopN_moves n six a) (W := wayN n six a) (wayN_goes n six a), loopsL_mem]
    constructor
    · rintro ⟨r, hr, g1, g2⟩
      obtain ⟨y, hy, rfl⟩ := List.mem_map.1 hr
      exact ⟨y, hy, g1, g2⟩
    · rintro ⟨y, hy, g1, g2⟩
      exact ⟨y.id, List.mem_map.2 ⟨y, hy, rfl⟩, g1, g2⟩
end Go.Am

set_option linter.unusedVariables false
set_option linter.unusedSimpArgs false
set_option pp.deepTerms false
set_option pp.deepTerms.threshold 40
namespace Go.Proofs
def Tryz.sortLoops_ren : Go.Shelf.Ren := ⟨fun | 6 => 51 | 15 => 86 | 14 => 85 | 28 => 129 | 29 => 130 | 20 => 121 | 21 => 122 | 22 => 123 | 23 => 124 | 24 => 125 | 25 => 126 | 26 => 127 | 27 => 128 | 46 => 163 | 47 => 164 | 48 => 165 | 49 => 166 | 50 => 167 | 57 => 214 | n => n, fun | 22 => 33 | 24 => 37 | 25 => 107 | 3 => 3 | 39 => 148 | 0 => 0 | 53 => 189 | 55 => 26 | 4 => 4 | 46 => 183 | 45 => 182 | 50 => 158 | 5 => 5 | 9 => 9 | 66 => 230 | 70 => 234 | 76 => 278 | 77 => 279 | n => n, fun | n => n⟩
theorem Tryz.sortLoops : SlLaysF.n6 Tryz.prog Tryz.sortLoops_ren := {
  mixed := by kernel_rfl,
  f6 := ⟨Tryz.f51.name, by decide, Tryz.func51.trans (congrArg some (by kernel_rfl))⟩,
  f14 := ⟨Tryz.f85.name, by decide, Tryz.func85.trans (congrArg some (by kernel_rfl))⟩,
  f15 := Tryz.func86.trans (congrArg some (by kernel_rfl)),
  f20 := ⟨Tryz.f121.name, by decide, Tryz.func121.trans (congrArg some (by kernel_rfl))⟩,
  f21 := ⟨Tryz.f122.name, by decide, Tryz.func122.trans (congrArg some (by kernel_rfl))⟩,
  f22 := ⟨Tryz.f123.name, by decide, Tryz.func123.trans (congrArg some (by kernel_rfl))⟩,
  f23 := ⟨Tryz.f124.name, by decide, Tryz.func124.trans (congrArg some (by kernel_rfl))⟩,
  f24 := ⟨Tryz.f125.name, by decide, Tryz.func125.trans (congrArg some (by kernel_rfl))⟩,
  f25 := ⟨Tryz.f126.name, by decide, Tryz.func126.trans (congrArg some (by kernel_rfl))⟩,
  f26 := ⟨Tryz.f127.name, by decide, Tryz.func127.trans (congrArg some (by kernel_rfl))⟩,
  f27 := ⟨Tryz.f128.name, by decide, Tryz.func128.trans (congrArg some (by kernel_rfl))⟩,
  f28 := Tryz.func129.trans (congrArg some (by kernel_rfl)),
  f29 := Tryz.func130.trans (congrArg some (by kernel_rfl)),
  f46 := ⟨Tryz.f163.name, by decide, Tryz.func163.trans (congrArg some (by kernel_rfl))⟩,
  f47 := Tryz.func164.trans (congrArg some (by kernel_rfl)),
  f48 := Tryz.func165.trans (congrArg some (by kernel_rfl)),
  f49 := ⟨Tryz.f166.name, by decide, Tryz.func166.trans (congrArg some (by kernel_rfl))⟩,
  f50 := ⟨Tryz.f167.name, by decide, Tryz.func167.trans (congrArg some (by kernel_rfl))⟩,
  f57 := ⟨Tryz.f214.name, by decide, Tryz.func214.trans (congrArg some (by kernel_rfl))⟩,
  t0 := Tryz.underlying0,
  a0 := Tryz.isAgg0,
  z0 := Tryz.sizeOf0,
  v0 := Tryz.zeroValue0,
  t3 := Tryz.underlying3,
  a3 := Tryz.isAgg3,
  z3 := Tryz.sizeOf3,
  v3 := Tryz.zeroValue3,
  t4 := Tryz.underlying4,
  a4 := Tryz.isAgg4,
  z4 := Tryz.sizeOf4,
  v4 := Tryz.zeroValue4,
  t5 := Tryz.underlying5,
  a5 := Tryz.isAgg5,
  z5 := Tryz.sizeOf5,
  v5 := Tryz.zeroValue5,
  t9 := Tryz.underlying9,
  a9 := Tryz.isAgg9,
  z9 := Tryz.sizeOf9,
  v9 := Tryz.zeroValue9,
  t22 := Tryz.underlying33,
  a22 := Tryz.isAgg33,
  z22 := Tryz.sizeOf33,
  v22 := Tryz.zeroValue33,
  a24 := Tryz.isAgg37,
  z24 := Tryz.sizeOf37,
  t25 := Tryz.underlying107,
  a25 := Tryz.isAgg107,
  z25 := Tryz.sizeOf107,
  v25 := Tryz.zeroValue107,
  t39 := Tryz.underlying148,
  a39 := Tryz.isAgg148,
  z39 := Tryz.sizeOf148,
  v39 := Tryz.zeroValue148,
  t45 := Tryz.underlying182,
  a45 := Tryz.isAgg182,
  z45 := Tryz.sizeOf182,
  v45 := Tryz.zeroValue182,
  t46 := Tryz.underlying183,
  a46 := Tryz.isAgg183,
  z46 := Tryz.sizeOf183,
  v46 := Tryz.zeroValue183,
  t50 := Tryz.underlying158,
  a50 := Tryz.isAgg158,
  z50 := Tryz.sizeOf158,
  v50 := Tryz.zeroValue158,
  t53 := Tryz.underlying189,
  a53 := Tryz.isAgg189,
  z53 := Tryz.sizeOf189,
  v53 := Tryz.zeroValue189,
  t55 := Tryz.underlying26,
  a55 := Tryz.isAgg26,
  z55 := Tryz.sizeOf26,
  v55 := Tryz.zeroValue26,
  t66 := Tryz.underlying230,
  a66 := Tryz.isAgg230,
  z66 := Tryz.sizeOf230,
  v66 := Tryz.zeroValue230,
  t70 := Tryz.underlying234,
  a70 := Tryz.isAgg234,
  z70 := Tryz.sizeOf234,
  v70 := Tryz.zeroValue234,
  t76 := Tryz.underlying278,
  a76 := Tryz.isAgg278,
  z76 := Tryz.sizeOf278,
  v76 := Tryz.zeroValue278,
  t77 := Tryz.underlying279,
  a77 := Tryz.isAgg279,
  z77 := Tryz.sizeOf279,
  v77 := Tryz.zeroValue279 }
end Go.Proofs
namespace Go.Am
open Go.Proofs

/-! ### where packets go round -/
theorem checkSL_right : ∀ {l : List Seat} {ah : Int}, checkSL l ah = 0 → ∀ x ∈ l, rightS x = true
  | [], _, _, x, hx => by cases hx
  | s :: l, ah, h, x, hx => by
    rw [checkSL] at h
    split at h
    · cases h
    · rename_i hc
      simp at hc
      rcases List.mem_cons.1 hx with rfl | hx
      · exact hc.1
      · exact checkSL_right h x hx
theorem netOk_ids {n : Net} (h : netOk n = true) : ∀ x ∈ idsN n, 0 ≤ x ∧ x ≤ 1048576 := by
  unfold netOk at h
  simp only [Bool.and_eq_true, beq_iff_eq] at h
  obtain ⟨g1, _⟩ := zipOk_map h.1.2
  intro x hx
  unfold idsN at hx
  rw [g1] at hx
  obtain ⟨s, hs, rfl⟩ := List.mem_map.1 hx
  have h1 := h.1.1.1
  unfold checkS at h1
  split at h1
  · cases h1
  · have := checkSL_right h1 s hs
    simp [rightS] at this
    omega
theorem sitN_heads (n : Net) (six : Bool) (a : Addr4) (hok : netOk n = true) {L : List Int} (hL : L ∈ (sitN n six a).2) : L ≠ [] ∧ 0 ≤ headI L ∧ headI L ≤ 1048576 := by
  obtain ⟨h1, h2⟩ := sitN_ok n six a
  obtain ⟨r, hr, g1, rfl⟩ := (h1.loops_iff h2 (hopN_moves n six a) (W := wayN n six a) (wayN_goes n six a) L).1 hL
  have hh := (leastB_iff.1 g1).1
  have := netOk_ids hok r hr
  refine ⟨fun e => (by rw [e] at hh; cases hh), ?_, ?_⟩
  · unfold headI; rw [hh]; exact this.1
  · unfold headI; rw [hh]; exact this.2
theorem sitN_len (n : Net) (six : Bool) (a : Addr4) (hok : netOk n = true) : (sitN n six a).2.length ≤ 64 := by
  have := sitF_len (hopN n six a) ((idsN n).length + 2) (idsN n) ([], [])
  have h1 := netOk_len hok
  have h2 : (idsN n).length = n.routers.length := by simp [idsN]
  unfold sitN
  simp at this
  omega
theorem bitsLen64_0 : FSpec Tryz.prog 130 [.int .u64 0] [] (.int .i64 0) [] := by
  refine FSpec.of_flat (q := []) Tryz.func130 (by kernel_rfl) rfl Tryz.ntmps130 Tryz.results130 hP (by kernel_rfl) (by simp) (by first | rfl | simp) ?_
  simp
  decide +kernel
theorem bitsLen0 : FSpec Tryz.prog 86 [.int .u64 0] [] (.int .i64 0) [] := by
  refine FSpec.of_flat (q := []) Tryz.func86 (by kernel_rfl) rfl Tryz.ntmps86 Tryz.results86 hP (by kernel_rfl) (by simp) (by first | rfl | simp) ?_
  simp
  first | refine CallK.same (bitsLen64_0) rfl rfl ?_ | refine CallQ.same (bitsLen64_0) rfl rfl ?_ | refine CallQG.same _ (bitsLen64_0) rfl ?_ | refine CallG.same _ (bitsLen64_0) rfl ?_ | refine CallK.pv (bitsLen64_0) rfl rfl ?_
  simp
theorem insNone_spec (T : TypeId) : FSpec Tryz.prog 121 [.row 0, .int .i64 0, .int .i64 0, .fn 52 []] [.row T 1 []] (.tup []) [.row T 1 []] := by
  have e1 : IntKind.i64.wrap 1 = 1 := by decide
  refine FSpec.of_o (q := [(4, .n 14), (6, .m [.p [], .p [], .p [1], .p [1], .p [1], .p [], .p [], .p [], .p [], .p [], .p [], .p [], .p [], .p [], .p [], .e [51, 46]])]) Tryz.func121 (by kernel_rfl) rfl Tryz.ntmps121 Tryz.results121 hP (by kernel_rfl) (by simp) (by first | rfl | simp) ?_
  simp [e1]
  refine LoopK.os (fun _ : Unit => [(0, .row 0), (2, .int .i64 0), (8, .int .i64 1)]) (fun _ => [.row T 1 []]) (fun _ => True) (fun _ => 0) () [0] trivial (by simp) ?_
  intro _ _
  simp
  refine EndO.normal [] [0] (.tup []) (by simp) (by simp)
theorem pdqNone_spec (T : TypeId) : FSpec Tryz.prog 85 [.row 0, .int .i64 0, .int .i64 0, .int .i64 0, .fn 52 []] [.row T 1 []] (.tup []) [.row T 1 []] := by
  have e0 : IntKind.i64.wrap 0 = 0 := by decide
  refine FSpec.of_o (q := [(17, .n 13)]) Tryz.func85 (by kernel_rfl) rfl Tryz.ntmps85 Tryz.results85 hP (by kernel_rfl) (by simp) (by first | rfl | simp) ?_
  simp
  refine LoopK.os (fun _ : Unit => [(0, .row 0), (1, .int .i64 0), (2, .int .i64 0), (3, .int .i64 0), (4, .fn 52 [])]) (fun _ => [.row T 1 []]) (fun _ => True) (fun _ => 0) () [0] trivial (by simp) ?_
  intro _ _
  simp [e0]
  refine CallO.mk [] [0] (insNone_spec T) (by simp) rfl (by simp) (by simp) (by simp) ?_
  simp
  refine EndO.ret [] [0] (.tup []) (by simp) (by simp)
theorem sortNone_spec (T : TypeId) : FSpec Tryz.prog 51 [.row 0, .fn 52 []] [.row T 1 (rowL [])] (.tup []) [.row T 1 (rowL [])] := by
  have e0 : IntKind.u64.wrap 0 = 0 := by decide
  refine FSpec.of_o (q := []) Tryz.func51 (by kernel_rfl) rfl Tryz.ntmps51 Tryz.results51 hP (by kernel_rfl) (by simp) (by first | rfl | simp) ?_
  simp [rowL, e0]
  first | refine CallK.same (bitsLen0) rfl rfl ?_ | refine CallQ.same (bitsLen0) rfl rfl ?_ | refine CallQG.same _ (bitsLen0) rfl ?_ | refine CallG.same _ (bitsLen0) rfl ?_ | refine CallK.pv (bitsLen0) rfl rfl ?_
  simp
  refine CallO.mk [] [0] (pdqNone_spec T) (by simp) rfl (by simp) (by simp) (by simp) ?_
  simp
  refine EndO.normal [] [0] (.tup []) (by simp) (by simp)
theorem sortLoops_spec (n : Net) (six : Bool) (a : Addr4) (hok : netOk n = true) :
    FSpec Tryz.prog 51 [.row 0, .fn 52 []] [.row 37 1 (rowL (sitN n six a).2)] (.tup []) [.row 37 1 (rowL (loopsL n six a n.routers))] := by
  by_cases hne : (sitN n six a).2 = []
  · have he : loopsL n six a n.routers = [] := by
      have := loops_sorted n six a hok [] (by rw [hne]; exact List.Perm.refl _) List.Pairwise.nil
      unfold rowL at this
      exact List.map_eq_nil_iff.1 this.symm
    rw [hne, he]
    exact sortNone_spec _
  · have hmem : ∀ x, x ∈ rowL (sitN n six a).2 → ∃ L, L ∈ (sitN n six a).2 ∧ x = [.sl 1 (rowI L)] := fun x hx => by
      unfold rowL at hx
      obtain ⟨L, h1, rfl⟩ := List.mem_map.1 hx
      exact ⟨L, h1, rfl⟩
    refine sortFunc1 Tryz.sortLoops 37 _ _ (fun x y => keyL x - keyL y) keyL (enters_of Tryz.func52 (by kernel_rfl) rfl) (by unfold rowL; simpa using hne) ?_ (fun x y _ _ => by omega) ?_ (loops_sorted n six a hok)
    · intro x y hx hy
      obtain ⟨L, hL, rfl⟩ := hmem x hx
      obtain ⟨M, hM, rfl⟩ := hmem y hy
      obtain ⟨g1, g2⟩ := sitN_heads n six a hok hL
      obtain ⟨k1, k2⟩ := sitN_heads n six a hok hM
      rw [keyL_row, keyL_row]
      exact cmpLoops_spec L M g1 k1 g2 k2
    · have := sitN_len n six a hok
      simp; omega
set_option maxRecDepth 8000 in
theorem loopsJ_spec (n : Net) (six : Bool) (a : Addr4) (hw : n.wf) (ha : a.wf) :
    FSpec Tryz.prog 15 [n.av, .bool six, a.av] [] (.tup [.im (.sl 1 (rowL (loopsN n six a))), .int .i64 (if rightN n six a then 0 else 2)]) [] := by
  refine FSpec.of_z (q := []) Tryz.func15 (by kernel_rfl) rfl Tryz.ntmps15 Tryz.results15 hP (by kernel_rfl) (by simp) (by first | rfl | simp) ?_
  simp
  first | refine CallK.same (rightJ_spec n six a) rfl rfl ?_ | refine CallQ.same (rightJ_spec n six a) rfl rfl ?_ | refine CallQG.same _ (rightJ_spec n six a) rfl ?_ | refine CallG.same _ (rightJ_spec n six a) rfl ?_ | refine CallK.pv (rightJ_spec n six a) rfl rfl ?_
  simp
  cases e : rightN n six a with
  | false =>
    simp
    refine EndZ.ret [] (.tup [.im (.sc (.slice none 0 0)), .int .i64 2]) (by simp) ?_
    simp [loopsN, e, rowL]
  | true =>
    have h1 : netOk n = true := by unfold rightN at e; simp at e; exact e.1
    have h2 : rightA six a = true := by unfold rightN at e; simp at e; exact e.2
    simp
    refine CallK.outs [] (sit_spec n six a h1 hw ha h2) rfl ?_ ?_ ?_
    · simp
    · simp [AV.flat]
    simp [courtO]
    refine CallO.mk [] [5] (sortLoops_spec n six a h1) (by simp) rfl (by simp) (by simp) (by simp) ?_
    simp
    refine EndZ.ret [5] (.tup [.row 5, .int .i64 0]) (by simp) ?_
    simp [loopsN, e]
end Go.Am

set_option linter.unusedVariables false
set_option linter.unusedSimpArgs false
set_option pp.deepTerms false
set_option pp.deepTerms.threshold 40
namespace Go.Am
open Go.Proofs

/-! ### the first fate of each router -/
def firstsK : List Fate → List (Int × Verd)
  | [] => []
  | f :: l => kput (firstsK l) f.router f.v
theorem backward_spec (l : List Fate) : FSpec Tryz.prog 87 [.im (.sl 3 (l.map Fate.iv))] [] (.fn 131 [.ptr 0 0]) [.box 29 [.im (.sl 3 (l.map Fate.iv))]] := by
  refine FSpec.of_o (q := []) Tryz.func87 (by kernel_rfl) rfl Tryz.ntmps87 Tryz.results87 hP (by kernel_rfl) (by simp) (by first | rfl | simp) ?_
  simp
  refine EndO.ret [] [0] _ rfl ?_
  simp
set_option maxRecDepth 4000 in
theorem firsts_spec (l : List Fate) : FSpec Tryz.prog 55 [.im (.sl 3 (l.map Fate.iv))] [] (.map 0) [.mp .i64 (kmap Verd.av (firstsK l))] := by
  refine FSpec.bd (enters_of Tryz.func55 (by kernel_rfl) rfl) fun hbd => ?_
  have hl : l.length ≤ 9223372036854775807 := by simp [maxLen] at hbd; exact hbd
  refine FSpec.of_o (q := []) Tryz.func55 (by kernel_rfl) rfl Tryz.ntmps55 Tryz.results55 hP (by kernel_rfl) (by simp) (by first | rfl | simp) ?_
  simp
  refine CallK.outs [] (backward_spec l) rfl ?_ ?_ ?_
  · simp
  · simp [AV.flat]
  simp [rangeK]
  intro a0 b rr
  refine ⟨_, _, _, [], Tryz.func131, (by kernel_rfl), rfl, Tryz.ntmps131, Tryz.results131, (by kernel_rfl), (by simp), ?_⟩
  have e1 : IntKind.i64.wrap ((l.length : Int) - 1) = (l.length : Int) - 1 := wrap64 (by omega) (by omega)
  simp [e1]
  refine LoopK.os (fun k : Nat => [(0, .yld 4), (1, .ptr 2 0), (3, .int .i64 ((k : Int) - 1))])
    (fun k => [.mp .i64 (kmap Verd.av (firstsK (l.drop k))), .box 99 [.map 0], .box 29 [.im (.sl 3 (l.map Fate.iv))], .sv a0 [(3, .ptr 1 0)], .lp b rr .ready none])
    (fun k => k ≤ l.length) (fun k => k) l.length [0, 1, 2, 3, 4] (Nat.le_refl _) (by simp [firstsK, renM]) ?_
  intro k hk
  cases k with
  | zero =>
    simp
    refine ⟨3, _, 4, .ready, none, rfl, rfl, .inl rfl, ?_⟩
    simp [pendK]
    refine EndO.ret [] [0] (.map 0) (by simp) (by simp)
  | succ k =>
    have hg := List.getElem?_eq_getElem (show k < l.length by omega)
    have hst : firstsK (l.drop k) = kput (firstsK (l.drop (k + 1))) l[k].router l[k].v := by
      rw [List.drop_eq_getElem_cons (show k < l.length by omega), firstsK]
    have hput := mput_kmap Verd.av (firstsK (l.drop (k + 1))) l[k].router l[k].v
    have e2 : ((k + 1 : Nat) : Int) - 1 = k := by omega
    have e3 : IntKind.i64.wrap ((k : Int) - 1) = (k : Int) - 1 := wrap64 (by omega) (by omega)
    simp only [e2]
    simp [hg, show k < l.length by omega]
    refine ⟨3, _, rfl, rfl, rfl, fun aI => ?_⟩
    simp [putL, asgK]
    refine ⟨4, by simp, ?_⟩
    simp at hput
    simp [hput]
    refine endRd_normal 5 4 (by simp; rfl) (by simp) ?_
    simp [e3]
    refine Again.os k [0, 1, 2, 3, 4] (by omega) (by omega) ?_
    simp [hst, renM]
end Go.Am

set_option linter.unusedVariables false
set_option linter.unusedSimpArgs false
set_option pp.deepTerms false
set_option pp.deepTerms.threshold 40
namespace Go.Am
open Go.Proofs

/-! ### the keys of a map, in order -/
theorem keysB_spec (M : List (Int × AV)) (hM : ∀ ρ, renM ρ M = M) : FSpec Tryz.prog 57 [.map 0] [.mp .i64 M] (.fn 90 [.ptr 1 0]) [.mp .i64 M, .box 111 [.map 0]] := by
  refine FSpec.of_o (q := []) Tryz.func57 (by kernel_rfl) rfl Tryz.ntmps57 Tryz.results57 hP (by kernel_rfl) (by simp) (by first | rfl | simp) ?_
  simp
  refine EndO.ret [] [0, 1] _ rfl ?_
  simp [hM]
def keysOf (M : List (Int × AV)) : List Int := M.map (·.1)
def someOrder (ks : List Int) (xs : List (List IV)) : Prop := ∃ l : List Int, l.Perm ks ∧ xs = rowI l
def keyAt (M : List (Int × AV)) (i : Nat) : Int := (M[i]?.map (·.1)).getD 0
theorem nodup_len : ∀ (n : Nat) (g : List Nat), g.Nodup → (∀ i ∈ g, i < n) → g.length ≤ n
  | 0, g, _, h => by cases g with | nil => exact Nat.le_refl _ | cons x g => have := h x List.mem_cons_self; omega
  | n + 1, g, hn, h => by
    by_cases hm : n ∈ g
    · have h1 := nodup_len n (g.erase n) (hn.erase n) fun i hi => by
        rw [hn.mem_erase_iff] at hi
        have := h i hi.2
        omega
      rw [List.length_erase_of_mem hm] at h1
      omega
    · have h1 := nodup_len n g hn fun i hi => by
        have := h i hi
        have : i ≠ n := fun e => hm (e ▸ hi)
        omega
      omega
theorem keys_perm (M : List (Int × AV)) {seen : List Nat} (hn : seen.Nodup) (hlt : ∀ i ∈ seen, i < M.length) (hall : ∀ i, i < M.length → i ∈ seen) : (seen.map (keyAt M)).Perm (keysOf M) := by
  have h1 : seen.Perm (List.range M.length) := (List.perm_ext_iff_of_nodup hn List.nodup_range).2 fun i => by
    rw [List.mem_range]
    exact ⟨hlt i, hall i⟩
  have h2 : (List.range M.length).map (keyAt M) = keysOf M := by
    apply List.ext_getElem
    · simp [keysOf]
    · intro i h3 h4
      simp at h3
      simp [keysOf, keyAt, h3]
  rw [← h2]
  exact h1.map _
set_option maxRecDepth 4000 in
theorem appendSeq_spec (M : List (Int × AV)) (hM : ∀ ρ, renM ρ M = M) (hlen : M.length ≤ 1000000000) :
    FSpec Tryz.prog 132 [.im (.sc (.slice none 0 0)), .fn 90 [.ptr 1 0]] [.mp .i64 M, .box 111 [.map 0]] (.row 2) [.mp .i64 M, .box 111 [.map 0], .rowE 3 1 (someOrder (keysOf M))] := by
  refine FSpec.of_o (q := []) Tryz.func132 (by kernel_rfl) rfl Tryz.ntmps132 Tryz.results132 hP (by kernel_rfl) (by simp) (by first | rfl | simp) ?_
  simp [rangeK]
  intro a0 b rr
  refine ⟨_, _, _, [], Tryz.func90, (by kernel_rfl), rfl, Tryz.ntmps90, Tryz.results90, (by kernel_rfl), (by simp), ?_⟩
  simp
  refine LoopK.nil (.cl 2 0 3 1) ?_
  simp
  refine LoopK.os (fun _ : List Nat => [(0, .yld 4), (1, .ptr 1 0), (5, .ptr 5 0)])
    (fun g => [.mp .i64 M, .box 111 [.map 0], .box 37 [.row 6], .sv a0 [(2, .ptr 2 0)], .lp b rr .ready none, .it 0 M.length g, .row 3 1 (rowI (g.map (keyAt M)))])
    (fun g => g.Nodup ∧ ∀ i ∈ g, i < M.length) (fun g => M.length - g.length) [] [0, 1, 2, 3, 4, 5, 6] ⟨List.nodup_nil, by simp⟩ (by simp [hM, rowI, renM]) ?_
  rintro g ⟨hn, hlt⟩
  have hgl : g.length ≤ M.length := nodup_len _ g hn hlt
  simp
  refine ⟨5, 0, M.length, g, .i64, M, rfl, rfl, rfl, rfl, fun i e he hi => ?_, fun hall => ?_⟩
  · have hil : i < M.length := (List.getElem?_eq_some_iff.1 he).1
    have hn' : (g ++ [i]).Nodup := by
      rw [List.nodup_append]
      exact ⟨hn, by simp, fun a ha b hb e => by rw [List.mem_singleton] at hb; subst hb; subst e; exact hi ha⟩
    have hlt' : ∀ j ∈ g ++ [i], j < M.length := fun j hj => by
      rcases List.mem_append.1 hj with hj | hj
      · exact hlt j hj
      · rw [List.mem_singleton] at hj; subst hj; exact hil
    have hgl' := nodup_len _ _ hn' hlt'
    have hk : keyAt M i = e.1 := by unfold keyAt; rw [he]; rfl
    rw [List.length_append, List.length_singleton] at hgl'
    simp [he]
    refine ⟨3, _, rfl, rfl, rfl, fun aI => ?_⟩
    simp [putL, asgK]
    refine ⟨4, by simp, ?_⟩
    simp
    refine ⟨⟨by omega, by unfold maxLen; omega⟩, ?_⟩
    refine endRd_normal 7 4 (by simp; rfl) (by simp) ?_
    simp
    refine Again.os (g ++ [i]) [0, 1, 2, 3, 4, 5, 9] ⟨hn', hlt'⟩ (by simp; omega) ?_
    simp [hM, hk, rowI, renM]
  · simp
    refine ⟨3, _, 4, .ready, none, rfl, rfl, .inl rfl, ?_⟩
    simp [pendK]
    refine EndO.ret [] [0, 1, 6] (.row 6) (by simp) ?_
    simp [hM]
    exact ⟨g.map (keyAt M), keys_perm M hn hlt hall, rfl⟩
theorem collect_spec (M : List (Int × AV)) (hM : ∀ ρ, renM ρ M = M) (hlen : M.length ≤ 1000000000) :
    FSpec Tryz.prog 88 [.fn 90 [.ptr 1 0]] [.mp .i64 M, .box 111 [.map 0]] (.row 2) [.mp .i64 M, .box 111 [.map 0], .rowE 3 1 (someOrder (keysOf M))] := by
  refine FSpec.of_o (q := []) Tryz.func88 (by kernel_rfl) rfl Tryz.ntmps88 Tryz.results88 hP (by kernel_rfl) (by simp) (by first | rfl | simp) ?_
  simp
  refine CallO.mk [] [0, 1] (appendSeq_spec M hM hlen) (by simp) rfl (by simp) (by simp [hM]) (by simp) ?_
  simp [hM]
  refine EndO.ret [] [0, 1, 2] (.row 2) (by simp) ?_
  simp [hM]
end Go.Am

set_option linter.unusedVariables false
set_option linter.unusedSimpArgs false
set_option pp.deepTerms false
set_option pp.deepTerms.threshold 40
namespace Go.Proofs
def Tryz.sortInt_ren : Go.Shelf.Ren := ⟨fun | 5 => 89 | 8 => 86 | 7 => 133 | 19 => 129 | 20 => 130 | 10 => 168 | 11 => 169 | 12 => 170 | 13 => 171 | 14 => 172 | 15 => 173 | 16 => 174 | 17 => 175 | 18 => 176 | 30 => 215 | 31 => 164 | 32 => 165 | 33 => 216 | 34 => 217 | 35 => 180 | 40 => 246 | n => n, fun | 23 => 37 | 25 => 3 | 3 => 3 | 32 => 148 | 22 => 37 | 0 => 0 | 44 => 189 | 46 => 26 | 4 => 4 | 36 => 183 | 35 => 182 | 41 => 158 | 5 => 5 | 9 => 9 | 53 => 230 | 57 => 234 | 63 => 278 | 64 => 279 | n => n, fun | n => n⟩
theorem Tryz.sortInt : SlLaysM.n5 Tryz.prog Tryz.sortInt_ren := {
  mixed := by kernel_rfl,
  f5 := ⟨Tryz.f89.name, by decide, Tryz.func89.trans (congrArg some (by kernel_rfl))⟩,
  f7 := ⟨Tryz.f133.name, by decide, Tryz.func133.trans (congrArg some (by kernel_rfl))⟩,
  f8 := Tryz.func86.trans (congrArg some (by kernel_rfl)),
  f10 := ⟨Tryz.f168.name, by decide, Tryz.func168.trans (congrArg some (by kernel_rfl))⟩,
  f11 := ⟨Tryz.f169.name, by decide, Tryz.func169.trans (congrArg some (by kernel_rfl))⟩,
  f12 := ⟨Tryz.f170.name, by decide, Tryz.func170.trans (congrArg some (by kernel_rfl))⟩,
  f13 := ⟨Tryz.f171.name, by decide, Tryz.func171.trans (congrArg some (by kernel_rfl))⟩,
  f14 := ⟨Tryz.f172.name, by decide, Tryz.func172.trans (congrArg some (by kernel_rfl))⟩,
  f15 := ⟨Tryz.f173.name, by decide, Tryz.func173.trans (congrArg some (by kernel_rfl))⟩,
  f16 := ⟨Tryz.f174.name, by decide, Tryz.func174.trans (congrArg some (by kernel_rfl))⟩,
  f17 := ⟨Tryz.f175.name, by decide, Tryz.func175.trans (congrArg some (by kernel_rfl))⟩,
  f18 := ⟨Tryz.f176.name, by decide, Tryz.func176.trans (congrArg some (by kernel_rfl))⟩,
  f19 := Tryz.func129.trans (congrArg some (by kernel_rfl)),
  f20 := Tryz.func130.trans (congrArg some (by kernel_rfl)),
  f30 := ⟨Tryz.f215.name, by decide, Tryz.func215.trans (congrArg some (by kernel_rfl))⟩,
  f31 := Tryz.func164.trans (congrArg some (by kernel_rfl)),
  f32 := Tryz.func165.trans (congrArg some (by kernel_rfl)),
  f33 := ⟨Tryz.f216.name, by decide, Tryz.func216.trans (congrArg some (by kernel_rfl))⟩,
  f34 := ⟨Tryz.f217.name, by decide, Tryz.func217.trans (congrArg some (by kernel_rfl))⟩,
  f35 := ⟨Tryz.f180.name, by decide, Tryz.func180.trans (congrArg some (by kernel_rfl))⟩,
  f40 := ⟨Tryz.f246.name, by decide, Tryz.func246.trans (congrArg some (by kernel_rfl))⟩,
  t0 := Tryz.underlying0,
  a0 := Tryz.isAgg0,
  z0 := Tryz.sizeOf0,
  v0 := Tryz.zeroValue0,
  t3 := Tryz.underlying3,
  a3 := Tryz.isAgg3,
  z3 := Tryz.sizeOf3,
  v3 := Tryz.zeroValue3,
  t4 := Tryz.underlying4,
  a4 := Tryz.isAgg4,
  z4 := Tryz.sizeOf4,
  v4 := Tryz.zeroValue4,
  t5 := Tryz.underlying5,
  a5 := Tryz.isAgg5,
  z5 := Tryz.sizeOf5,
  v5 := Tryz.zeroValue5,
  t9 := Tryz.underlying9,
  a9 := Tryz.isAgg9,
  z9 := Tryz.sizeOf9,
  v9 := Tryz.zeroValue9,
  t22 := Tryz.underlying37,
  a22 := Tryz.isAgg37,
  z22 := Tryz.sizeOf37,
  v22 := Tryz.zeroValue37,
  t23 := Tryz.underlying37,
  a23 := Tryz.isAgg37,
  z23 := Tryz.sizeOf37,
  v23 := Tryz.zeroValue37,
  t25 := Tryz.underlying3,
  a25 := Tryz.isAgg3,
  z25 := Tryz.sizeOf3,
  v25 := Tryz.zeroValue3,
  t32 := Tryz.underlying148,
  a32 := Tryz.isAgg148,
  z32 := Tryz.sizeOf148,
  v32 := Tryz.zeroValue148,
  t35 := Tryz.underlying182,
  a35 := Tryz.isAgg182,
  z35 := Tryz.sizeOf182,
  v35 := Tryz.zeroValue182,
  t36 := Tryz.underlying183,
  a36 := Tryz.isAgg183,
  z36 := Tryz.sizeOf183,
  v36 := Tryz.zeroValue183,
  t41 := Tryz.underlying158,
  a41 := Tryz.isAgg158,
  z41 := Tryz.sizeOf158,
  v41 := Tryz.zeroValue158,
  t44 := Tryz.underlying189,
  a44 := Tryz.isAgg189,
  z44 := Tryz.sizeOf189,
  v44 := Tryz.zeroValue189,
  t46 := Tryz.underlying26,
  a46 := Tryz.isAgg26,
  z46 := Tryz.sizeOf26,
  v46 := Tryz.zeroValue26,
  t53 := Tryz.underlying230,
  a53 := Tryz.isAgg230,
  z53 := Tryz.sizeOf230,
  v53 := Tryz.zeroValue230,
  t57 := Tryz.underlying234,
  a57 := Tryz.isAgg234,
  z57 := Tryz.sizeOf234,
  v57 := Tryz.zeroValue234,
  t63 := Tryz.underlying278,
  a63 := Tryz.isAgg278,
  z63 := Tryz.sizeOf278,
  v63 := Tryz.zeroValue278,
  t64 := Tryz.underlying279,
  a64 := Tryz.isAgg279,
  z64 := Tryz.sizeOf279,
  v64 := Tryz.zeroValue279 }
end Go.Proofs
namespace Go.Am
open Go.Proofs

/-! ### which routers' fates differ: the program -/
theorem rowN_rowI (l : List Int) : rowN l = rowI l := rfl
theorem sorted_spec (M : List (Int × AV)) (hM : ∀ ρ, renM ρ M = M) (hlen : M.length ≤ 1000000000) :
    FSpec Tryz.prog 56 [.fn 90 [.ptr 1 0]] [.mp .i64 M, .box 111 [.map 0]] (.im (.sl 1 (rowI (sortI (keysOf M))))) [.mp .i64 M, .box 111 [.map 0]] := by
  refine FSpec.of_o (q := []) Tryz.func56 (by kernel_rfl) rfl Tryz.ntmps56 Tryz.results56 hP (by kernel_rfl) (by simp) (by first | rfl | simp) ?_
  simp
  refine CallO.mk [] [0, 1] (collect_spec M hM hlen) (by simp) rfl (by simp) (by simp [hM]) (by simp) ?_
  simp [hM]
  have hs : FSpec Tryz.prog 89 [.row 0] [.rowE 3 1 (someOrder (keysOf M))] (.tup []) [.row 3 1 (rowI (sortI (keysOf M)))] := by
    refine FSpec.exRow (i := 0) (Tryz.sortInt.f5.enters rfl) rfl fun xs hx => ?_
    obtain ⟨l, hl, rfl⟩ := hx
    have hll : l.length ≤ 1000000000 := by rw [hl.length_eq]; simpa [keysOf] using hlen
    have := sortInts Tryz.sortInt 3 l (by omega)
    rw [rowN_rowI, rowN_rowI, sortI_eq hl] at this
    exact this
  refine CallO.mk [] [2] hs (by simp) rfl (by simp) (by simp) (by simp) ?_
  simp
  refine EndO.ret [2] [0, 1] (.row 2) (by simp) ?_
  simp [hM]
def setB (ks : List Int) : List (Int × AV) := ks.map fun r => (r, .bool true)
theorem setB_ren (ks : List Int) (ρ : Nat → Nat) : renM ρ (setB ks) = setB ks := by
  induction ks with
  | nil => rfl
  | cons x ks ih => show (x, AV.ren ρ (.bool true)) :: renM ρ (setB ks) = _; rw [ih]; rfl
theorem setB_keys (ks : List Int) : keysOf (setB ks) = ks := by simp [keysOf, setB, Function.comp_def]
theorem setB_put (ks : List Int) (r : Int) : mput (setB ks) r (.bool true) = setB (if r ∈ ks then ks else ks ++ [r]) := by
  have h := mput_kmap (fun b : Bool => AV.bool b) (ks.map fun r => (r, true)) r true
  have e : ∀ l : List Int, kmap (fun b : Bool => AV.bool b) (l.map fun r => (r, true)) = setB l := fun l => by simp [kmap, setB, Function.comp_def]
  rw [e] at h
  rw [h, ← e]
  congr 1
  clear h e
  induction ks with
  | nil => simp [kput]
  | cons x ks ih =>
    rw [List.map_cons, kput]
    by_cases hx : r = x
    · subst hx; simp
    · rw [if_neg hx, ih]
      have : r ∈ x :: ks ↔ r ∈ ks := by simp [hx]
      by_cases hm : r ∈ ks
      · simp [hm]
      · simp [hm, hx]
def firstF : List Fate → Int → Option Verd
  | [], _ => none
  | f :: l, x => if f.router = x then some f.v else firstF l x
theorem kget_firsts : ∀ (l : List Fate) (x : Int), kget (firstsK l) x = firstF l x
  | [], x => rfl
  | f :: l, x => by
    rw [firstsK, kget_put, kget_firsts l x, firstF]
    by_cases h : x = f.router
    · simp [h]
    · simp [h, Ne.symm h]
theorem kput_len {β : Type} : ∀ (l : List (Int × β)) (x : Int) (v : β), (kput l x v).length ≤ l.length + 1
  | [], x, v => by simp [kput]
  | (k, u) :: l, x, v => by
    rw [kput]
    split
    · simp
    · have := kput_len l x v
      simp; omega
theorem firstsK_len : ∀ l : List Fate, (firstsK l).length ≤ l.length
  | [] => Nat.le_refl _
  | f :: l => by
    have h1 := firstsK_len l
    have h2 := kput_len (firstsK l) f.router f.v
    rw [firstsK]
    simp; omega
theorem kget_at {β : Type} : ∀ (l : List (Int × β)) (h : (l.map (·.1)).Nodup) (i : Nat) (x : Int) (v : β), l[i]? = some (x, v) → kget l x = some v
  | [], _, i, x, v, hi => by simp at hi
  | (k, u) :: l, h, i, x, v, hi => by
    rw [kget]
    cases i with
    | zero => simp at hi; simp [hi]
    | succ i =>
      simp at hi
      rw [List.map_cons, List.nodup_cons] at h
      have hm : x ∈ l.map (·.1) := List.mem_map.2 ⟨(x, v), List.mem_of_getElem? hi, rfl⟩
      rw [if_neg (fun e => h.1 (by rw [← e]; exact hm))]
      exact kget_at l h.2 i x v hi
theorem kput_keys {β : Type} : ∀ (l : List (Int × β)) (x : Int) (v : β), (kput l x v).map (·.1) = if x ∈ l.map (·.1) then l.map (·.1) else l.map (·.1) ++ [x]
  | [], x, v => by simp [kput]
  | (k, u) :: l, x, v => by
    rw [kput]
    by_cases h : x = k
    · subst h; simp
    · rw [if_neg h, List.map_cons, kput_keys l x v]
      by_cases hm : x ∈ l.map (·.1)
      · simp [hm]
      · simp only [hm, if_false]
        have : ¬ x ∈ k :: l.map (·.1) := by simp only [List.mem_cons, not_or]; exact ⟨h, hm⟩
        simp [h] at hm ⊢
        simp [hm]
theorem firstsK_nodup : ∀ l : List Fate, ((firstsK l).map (·.1)).Nodup
  | [] => List.nodup_nil
  | f :: l => by
    have h := firstsK_nodup l
    rw [firstsK, kput_keys]
    split
    · exact h
    · rename_i hm
      rw [List.nodup_append]
      exact ⟨h, by simp, fun a ha b hb e => by rw [List.mem_singleton] at hb; subst hb; subst e; exact hm ha⟩
theorem kget_mem {β : Type} : ∀ {l : List (Int × β)} {x : Int} {v : β}, kget l x = some v → ∃ i : Nat, l[i]? = some (x, v)
  | [], x, v, h => by cases h
  | (k, u) :: l, x, v, h => by
    rw [kget] at h
    split at h
    · rename_i e; cases h; subst e; exact ⟨0, rfl⟩
    · obtain ⟨i, hi⟩ := kget_mem h
      exact ⟨i + 1, by simpa using hi⟩
theorem verd_ne (u v : Verd) : (u ≠ v) ↔ ¬ (u.kind = v.kind ∧ u.at_ = v.at_) := by
  cases u; cases v; simp
end Go.Am

set_option linter.unusedVariables false
set_option linter.unusedSimpArgs false
set_option pp.deepTerms false
set_option pp.deepTerms.threshold 40
namespace Go.Am
open Go.Proofs

/-! ### which routers' fates differ -/
@[simp] theorem kmap_length {β : Type} (f : β → AV) (l : List (Int × β)) : (kmap f l).length = l.length := by simp [kmap]
theorem kmap_get {β : Type} (f : β → AV) (l : List (Int × β)) (i : Nat) (e : Int × AV) (h : (kmap f l)[i]? = some e) : ∃ r v, l[i]? = some (r, v) ∧ e = (r, f v) := by
  unfold kmap at h
  rw [List.getElem?_map, Option.map_eq_some_iff] at h
  obtain ⟨⟨r, v⟩, h1, rfl⟩ := h
  exact ⟨r, v, h1, rfl⟩
@[simp] theorem renM_setB (ks : List Int) (ρ : Nat → Nat) : renM ρ (setB ks) = setB ks := setB_ren ks ρ
theorem setB_nil : setB [] = [] := rfl
theorem snoc_nodup {g : List Nat} {i : Nat} (hn : g.Nodup) (hi : i ∉ g) : (g ++ [i]).Nodup := by
  rw [List.nodup_append]
  exact ⟨hn, by simp, fun a ha b hb e => by rw [List.mem_singleton] at hb; subst hb; subst e; exact hi ha⟩
theorem snoc_lt {g : List Nat} {i n : Nat} (h : ∀ j ∈ g, j < n) (hi : i < n) : ∀ j ∈ g ++ [i], j < n := fun j hj => by
  rcases List.mem_append.1 hj with hj | hj
  · exact h j hj
  · rw [List.mem_singleton] at hj; subst hj; exact hi
def addB (c : Bool) (ks : List Int) (r : Int) : List Int := if c then (if r ∈ ks then ks else ks ++ [r]) else ks
theorem addB_mem (c : Bool) (ks : List Int) (r x : Int) : x ∈ addB c ks r ↔ x ∈ ks ∨ (c = true ∧ x = r) := by
  unfold addB
  cases c
  · simp
  · simp only [if_true, true_and]
    by_cases h : r ∈ ks
    · simp only [h, if_true]
      exact ⟨.inl, fun h' => h'.elim id fun e => e ▸ h⟩
    · simp [h]
theorem addB_nodup (c : Bool) {ks : List Int} (r : Int) (h : ks.Nodup) : (addB c ks r).Nodup := by
  unfold addB
  cases c
  · exact h
  · simp only [if_true]
    by_cases hm : r ∈ ks
    · simpa [hm] using h
    · simp only [hm, if_false]
      rw [List.nodup_append]
      exact ⟨h, by simp, fun a ha b hb e => by rw [List.mem_singleton] at hb; subst hb; subst e; exact hm ha⟩
theorem addB_len (c : Bool) (ks : List Int) (r : Int) : (addB c ks r).length ≤ ks.length + 1 := by
  unfold addB
  repeat' split
  all_goals simp
/-- Of X's entries (those seen) the ones that Y has not. -/
def seenD (X Y : List (Int × Verd)) (g : List Nat) (r : Int) : Prop := ∃ (i : Nat) (v : Verd), i ∈ g ∧ X[i]? = some (r, v) ∧ kget Y r ≠ some v
def seenN (X Y : List (Int × Verd)) (g : List Nat) (r : Int) : Prop := ∃ (i : Nat) (v : Verd), i ∈ g ∧ Y[i]? = some (r, v) ∧ kget X r = none
set_option maxRecDepth 8000 in
set_option maxHeartbeats 1000000 in
theorem differJ_spec (a b : List Fate) (ha : a.length ≤ 100000000) (hb : b.length ≤ 100000000) (D : List Int) (hD : D.Pairwise (· < ·)) (hm : ∀ r, r ∈ D ↔ firstF a r ≠ firstF b r) :
    FSpec Tryz.prog 22 [.im (.sl 3 (a.map Fate.iv)), .im (.sl 3 (b.map Fate.iv))] [] (.im (.sl 1 (rowI D))) [] := by
  have hXl := firstsK_len a
  have hYl := firstsK_len b
  have hXn := firstsK_nodup a
  have hYn := firstsK_nodup b
  simp only [← kget_firsts] at hm
  refine FSpec.of_z (q := []) Tryz.func22 (by kernel_rfl) rfl Tryz.ntmps22 Tryz.results22 hP (by kernel_rfl) (by simp) (by first | rfl | simp) ?_
  simp
  refine CallK.outs [] (firsts_spec a) rfl (by simp) (by simp [AV.flat]) ?_
  simp
  refine CallK.outs [] (firsts_spec b) rfl (by simp) (by simp [AV.flat]) ?_
  simp
  generalize firstsK a = X at *
  generalize firstsK b = Y at *
  refine LoopK.os (fun g : List Nat × List Int => [(5, .map 0), (6, .map 1), (7, .map 2), (21, .ptr 3 0)])
    (fun g => [.mp .i64 (kmap Verd.av X), .mp .i64 (kmap Verd.av Y), .mp .i64 (setB g.2), .it 0 X.length g.1])
    (fun g => g.1.Nodup ∧ (∀ i ∈ g.1, i < X.length) ∧ g.2.Nodup ∧ g.2.length ≤ g.1.length ∧ ∀ r, r ∈ g.2 ↔ seenD X Y g.1 r) (fun g => X.length - g.1.length) ([], []) [0, 1, 2, 3] ⟨List.nodup_nil, by simp, List.nodup_nil, by simp, fun r => by simp [seenD]⟩ (by simp [setB_nil]) ?_
  rintro ⟨g, ks⟩ ⟨hn, hlt, hkn, hkl, hR⟩
  simp only at hn hlt hkn hkl hR
  have hgl : g.length ≤ X.length := nodup_len _ g hn hlt
  simp
  refine ⟨3, 0, X.length, g, .i64, kmap Verd.av X, rfl, rfl, rfl, by simp, fun i e he hi => ?_, fun hall => ?_⟩
  · obtain ⟨r, v, hx, rfl⟩ := kmap_get _ _ _ _ he
    have hil : i < X.length := (List.getElem?_eq_some_iff.1 hx).1
    have hn' := snoc_nodup hn hi
    have hlt' := snoc_lt hlt hil
    have hgl' := nodup_len _ _ hn' hlt'
    rw [List.length_append, List.length_singleton] at hgl'
    have hgy := mget_kmap Verd.av Y r
    have hput := setB_put ks r
    have next : ∀ c : Bool, (c = true ↔ kget Y r ≠ some v) → (addB c ks r).Nodup ∧ (addB c ks r).length ≤ (g ++ [i]).length ∧ ∀ x, x ∈ addB c ks r ↔ seenD X Y (g ++ [i]) x := by
      intro c hc
      refine ⟨addB_nodup c r hkn, ?_, fun x => ?_⟩
      · have := addB_len c ks r
        simp; omega
      · rw [addB_mem, hR, hc]
        unfold seenD
        constructor
        · rintro (⟨j, u, h1, h2, h3⟩ | ⟨h1, rfl⟩)
          · exact ⟨j, u, List.mem_append_left _ h1, h2, h3⟩
          · exact ⟨i, v, by simp, hx, h1⟩
        · rintro ⟨j, u, h1, h2, h3⟩
          rcases List.mem_append.1 h1 with h1 | h1
          · exact .inl ⟨j, u, h1, h2, h3⟩
          · rw [List.mem_singleton] at h1
            subst h1
            rw [hx] at h2
            cases h2
            exact .inr ⟨h3, rfl⟩
    cases hy : kget Y r with
    | none =>
      obtain ⟨n1, n2, n3⟩ := next true (by simp [hy])
      rw [hy] at hgy
      simp [he, hgy, hput]
      refine Again.os (g ++ [i], addB true ks r) [0, 1, 2, 3] ⟨hn', hlt', n1, n2, n3⟩ (by simp only [List.length_append, List.length_singleton]; omega) ?_
      simp [addB]
    | some u =>
      rw [hy] at hgy
      have hne := verd_ne u v
      simp [he, hgy, hput]
      refine ⟨fun h => ?_, fun h1 h2 => ?_⟩
      · obtain ⟨n1, n2, n3⟩ := next true (by rw [hy]; simp only [true_iff, ne_eq, Option.some.injEq]; rw [← ne_eq, hne]; rintro ⟨h1, h2⟩; exact h.elim (· h1) (· h2))
        refine Again.os (g ++ [i], addB true ks r) [0, 1, 2, 3] ⟨hn', hlt', n1, n2, n3⟩ (by simp only [List.length_append, List.length_singleton]; omega) ?_
        simp [addB]
      · have huv : u = v := by cases u; cases v; simp_all
        obtain ⟨n1, n2, n3⟩ := next false (by rw [hy, huv]; simp)
        refine Again.os (g ++ [i], addB false ks r) [0, 1, 2, 3] ⟨hn', hlt', n1, n2, n3⟩ (by simp only [List.length_append, List.length_singleton]; omega) ?_
        simp [addB]
  · simp
    have hR1 : ∀ r, r ∈ ks ↔ ∃ v, kget X r = some v ∧ kget Y r ≠ some v := fun r => by
      rw [hR]
      constructor
      · rintro ⟨i, v, _, h2, h3⟩
        exact ⟨v, kget_at X hXn i r v h2, h3⟩
      · rintro ⟨v, h1, h2⟩
        obtain ⟨i, hi⟩ := kget_mem h1
        exact ⟨i, v, hall i (by have := (List.getElem?_eq_some_iff.1 hi).1; simpa using this), hi, h2⟩
    refine LoopK.os (fun g : List Nat × List Int => [(5, .map 0), (6, .map 1), (7, .map 2), (43, .ptr 3 0)])
      (fun g => [.mp .i64 (kmap Verd.av X), .mp .i64 (kmap Verd.av Y), .mp .i64 (setB g.2), .it 1 Y.length g.1])
      (fun g => g.1.Nodup ∧ (∀ i ∈ g.1, i < Y.length) ∧ g.2.Nodup ∧ g.2.length ≤ X.length + g.1.length ∧ ∀ r, r ∈ g.2 ↔ r ∈ ks ∨ seenN X Y g.1 r) (fun g => Y.length - g.1.length) ([], ks) [0, 1, 2, 4] ⟨List.nodup_nil, by simp, hkn, by simp; omega, fun r => by simp [seenN]⟩ (by simp) ?_
    clear hn hlt hkl hR hgl hall
    rintro ⟨g, ls⟩ ⟨hn, hlt, hln, hll, hR⟩
    simp only at hn hlt hln hll hR
    have hgl : g.length ≤ Y.length := nodup_len _ g hn hlt
    simp
    refine ⟨3, 1, Y.length, g, .i64, kmap Verd.av Y, rfl, rfl, rfl, by simp, fun i e he hi => ?_, fun hall => ?_⟩
    · obtain ⟨r, v, hx, rfl⟩ := kmap_get _ _ _ _ he
      have hil : i < Y.length := (List.getElem?_eq_some_iff.1 hx).1
      have hn' := snoc_nodup hn hi
      have hlt' := snoc_lt hlt hil
      have hgl' := nodup_len _ _ hn' hlt'
      rw [List.length_append, List.length_singleton] at hgl'
      have hgx := mget_kmap Verd.av X r
      have hput := setB_put ls r
      have next : ∀ c : Bool, (c = true ↔ kget X r = none) → (addB c ls r).Nodup ∧ (addB c ls r).length ≤ X.length + (g ++ [i]).length ∧ ∀ x, x ∈ addB c ls r ↔ x ∈ ks ∨ seenN X Y (g ++ [i]) x := by
        intro c hc
        refine ⟨addB_nodup c r hln, ?_, fun x => ?_⟩
        · have := addB_len c ls r
          simp; omega
        · rw [addB_mem, hR, hc, or_assoc]
          refine or_congr Iff.rfl ?_
          unfold seenN
          constructor
          · rintro (⟨j, u, h1, h2, h3⟩ | ⟨h1, rfl⟩)
            · exact ⟨j, u, List.mem_append_left _ h1, h2, h3⟩
            · exact ⟨i, v, by simp, hx, h1⟩
          · rintro ⟨j, u, h1, h2, h3⟩
            rcases List.mem_append.1 h1 with h1 | h1
            · exact .inl ⟨j, u, h1, h2, h3⟩
            · rw [List.mem_singleton] at h1
              subst h1
              rw [hx] at h2
              cases h2
              exact .inr ⟨h3, rfl⟩
      cases hy : kget X r with
      | none =>
        obtain ⟨n1, n2, n3⟩ := next true (by simp [hy])
        rw [hy] at hgx
        simp [he, hgx, hput]
        refine Again.os (g ++ [i], addB true ls r) [0, 1, 2, 3] ⟨hn', hlt', n1, n2, n3⟩ (by simp only [List.length_append, List.length_singleton]; omega) ?_
        simp [addB]
      | some u =>
        obtain ⟨n1, n2, n3⟩ := next false (by simp [hy])
        rw [hy] at hgx
        simp [he, hgx, hput]
        refine Again.os (g ++ [i], addB false ls r) [0, 1, 2, 3] ⟨hn', hlt', n1, n2, n3⟩ (by simp only [List.length_append, List.length_singleton]; omega) ?_
        simp [addB]
    · have hfin : ∀ r, r ∈ ls ↔ r ∈ D := fun r => by
        rw [hR, hR1, hm]
        constructor
        · rintro (⟨v, h1, h2⟩ | ⟨i, v, _, h2, h3⟩)
          · rw [h1]; exact fun e => h2 e.symm
          · rw [h3, kget_at Y hYn i r v h2]; simp
        · intro h
          cases hx : kget X r with
          | some v => exact .inl ⟨v, rfl, fun e => h (by rw [hx, e])⟩
          | none =>
            cases hy : kget Y r with
            | none => rw [hx, hy] at h; exact absurd rfl h
            | some v =>
              obtain ⟨i, hi⟩ := kget_mem hy
              exact .inr ⟨i, v, hall i (by have := (List.getElem?_eq_some_iff.1 hi).1; simpa using this), hi, hx⟩
      have hDn : D.Nodup := hD.imp fun h => by omega
      have hsort : sortI ls = D := sorted_eq ((sortI_perm ls).trans ((List.perm_ext_iff_of_nodup hln hDn).2 hfin)) (sortI_sorted ls) (hD.imp fun h => by omega)
      simp
      refine CallO.mk [] [2] (keysB_spec (setB ls) (setB_ren ls)) (by simp) rfl (by simp) (by simp) (by simp) ?_
      simp
      refine CallO.mk [] [2, 4] (sorted_spec (setB ls) (setB_ren ls) (by simp [setB]; omega)) (by simp) rfl (by simp) (by simp) (by simp) ?_
      simp [setB_keys, hsort]
      refine EndZ.ret [] _ rfl ?_
      simp
end Go.Am

set_option linter.unusedVariables false
set_option linter.unusedSimpArgs false
set_option pp.deepTerms false
set_option pp.deepTerms.threshold 40
namespace Go.Am
open Go.Proofs

/-! ### a net in which packets go round -/
def toR (x p : Int) : Router := ⟨x, true, [⟨⟨false, ⟨0, 0⟩, 0⟩, ⟨1, 0⟩⟩], [⟨0, p⟩]⟩
theorem to_spec (x p : Int) : FSpec Tryz.prog 54 [.int .i64 x, .int .i64 p] [] (toR x p).av [] := by
  refine FSpec.of_z (q := []) Tryz.func54 (by kernel_rfl) rfl Tryz.ntmps54 Tryz.results54 hP (by kernel_rfl) (by simp) (by first | rfl | simp) ?_
  simp
  refine EndZ.ret [1, 2] (.agg [.int .i64 x, .bool true, .row 1, .row 2]) (by simp) (by simp [toR])
def livesR : List Router := [toR 4 7, toR 5 7, toR 7 4, toR 8 9]
def livesN : Net := ⟨livesR.map fun r => ⟨r.id, 1, 0, true⟩, livesR⟩
/-- A call that hands back a value that never changes, and is handed rows that were let go. -/
theorem CallK.v0 {P : Go.Program} {f : FuncId} {args args' : List AV} {r : AV} {d : Option Nat} {k : St → Prop} {st : St} (hs : FSpec P f args' [] r []) (hp : AV.pureL args' = true) (ha : argsOk st args args') (hr : r.pure = true) (hk : k (st.put d r)) : CallX P f args d k st :=
  CallK.val [] hs hp ha hr hk hk
def livesF : List Fate := [⟨4, ⟨4, 4⟩⟩, ⟨5, ⟨4, 7⟩⟩, ⟨7, ⟨4, 7⟩⟩, ⟨8, ⟨3, 9⟩⟩]
theorem livesN_right : rightN livesN false ⟨0, 0⟩ = true := by kernel_rfl
theorem livesN_wrong : rightN livesN false ⟨1, 0⟩ = false := by kernel_rfl
theorem livesN_fates : fatesN livesN false ⟨0, 0⟩ = livesF := by kernel_rfl
theorem livesN_loops : loopsN livesN false ⟨0, 0⟩ = [[4, 7]] := by kernel_rfl
theorem livesN_none : fatesN livesN false ⟨1, 0⟩ = [] := by simp [fatesN, livesN_wrong]
theorem livesN_wf : livesN.wf := by
  intro r hr
  simp [livesN, livesR] at hr
  rcases hr with rfl | rfl | rfl | rfl <;> (intro x hx; simp [toR] at hx; subst hx; unfold Addr4.wf; decide)
theorem lives_spec : FSpec Tryz.prog 18 [] [] (.bool true) [] := by
  refine FSpec.of_flat (q := []) Tryz.func18 (by kernel_rfl) rfl Tryz.ntmps18 Tryz.results18 hP (by kernel_rfl) (by simp) (by first | rfl | simp) ?_
  simp
  first | refine CallK.same (to_spec 4 7) rfl rfl ?_ | refine CallQ.same (to_spec 4 7) rfl rfl ?_ | refine CallQG.same _ (to_spec 4 7) rfl ?_ | refine CallG.same _ (to_spec 4 7) rfl ?_ | refine CallK.pv (to_spec 4 7) rfl rfl ?_
  simp
  first | refine CallK.same (to_spec 5 7) rfl rfl ?_ | refine CallQ.same (to_spec 5 7) rfl rfl ?_ | refine CallQG.same _ (to_spec 5 7) rfl ?_ | refine CallG.same _ (to_spec 5 7) rfl ?_ | refine CallK.pv (to_spec 5 7) rfl rfl ?_
  simp
  first | refine CallK.same (to_spec 7 4) rfl rfl ?_ | refine CallQ.same (to_spec 7 4) rfl rfl ?_ | refine CallQG.same _ (to_spec 7 4) rfl ?_ | refine CallG.same _ (to_spec 7 4) rfl ?_ | refine CallK.pv (to_spec 7 4) rfl rfl ?_
  simp
  first | refine CallK.same (to_spec 8 9) rfl rfl ?_ | refine CallQ.same (to_spec 8 9) rfl rfl ?_ | refine CallQG.same _ (to_spec 8 9) rfl ?_ | refine CallG.same _ (to_spec 8 9) rfl ?_ | refine CallK.pv (to_spec 8 9) rfl rfl ?_
  simp
  refine LoopK.nil (.cl 0 0 90 4) ?_
  simp
  refine LoopK.nil (.cl 0 1 97 4) ?_
  simp
  refine LoopK.os (fun k : Nat => [(1, .ptr 0 0), (18, .row 1), (19, .int .i64 4), (20, .int .i64 k)])
    (fun k => [.box 25 [.row 2, .row 3], .row 97 4 (livesR.map Router.iv), .row 90 4 ((livesN.seats.take k).map Seat.iv), .row 97 4 ((livesR.take k).map Router.iv)])
    (fun k => k ≤ 4) (fun k => 4 - k) 0 [0, 1, 2, 3] (by omega) (by simp [livesR]) ?_
  intro k hk
  by_cases hlt : k < 4
  · have e1 : IntKind.i64.wrap (k + 1) = (k + 1 : Nat) := wrap64 (by omega) (by omega)
    have hl4 : livesR.length = 4 := rfl
    have hs4 : livesN.seats.length = 4 := rfl
    have hg := List.getElem?_eq_getElem (show k < livesR.length by omega)
    have hsk : (livesN.seats.take (k + 1)) = livesN.seats.take k ++ [⟨livesR[k].id, 1, 0, true⟩] := by
      rw [List.take_add_one]
      simp only [livesN, List.getElem?_map, hg]
      rfl
    have hrk : livesR.take (k + 1) = livesR.take k ++ [livesR[k]] := by
      rw [List.take_add_one, hg]; rfl
    have hlt' : (k : Int) < 4 := by omega
    simp [hlt, hlt', hl4, hs4, hg, e1]
    refine ⟨⟨by omega, by unfold maxLen; omega⟩, ⟨by omega, by unfold maxLen; omega⟩, ?_⟩
    refine Again.os (k + 1) [0, 1, 6, 8] hlt (by omega) ?_
    have hsk' : List.take (k + 1) (livesN.seats.map Seat.iv) = List.take k (livesN.seats.map Seat.iv) ++ [Seat.iv ⟨livesR[k].id, 1, 0, true⟩] := by rw [← List.map_take, hsk, List.map_append, List.map_take]; rfl
    have hrk' : List.take (k + 1) (livesR.map Router.iv) = List.take k (livesR.map Router.iv) ++ [livesR[k].iv] := by rw [← List.map_take, hrk, List.map_append, List.map_take]; rfl
    simp [hsk', hrk']
    exact ⟨rfl, rfl, rfl, rfl⟩
  · have hk4 : k = 4 := by omega
    subst hk4
    have hst : List.take 4 (livesN.seats.map Seat.iv) = livesN.seats.map Seat.iv := rfl
    have hrt : List.take 4 (livesR.map Router.iv) = livesN.routers.map Router.iv := rfl
    have hwf0 : Addr4.wf ⟨0, 0⟩ := by unfold Addr4.wf; decide
    have hwf1 : Addr4.wf ⟨1, 0⟩ := by unfold Addr4.wf; decide
    have s1 := fatesJ_spec livesN false ⟨0, 0⟩ livesN_wf hwf0
    have s2 := loopsJ_spec livesN false ⟨0, 0⟩ livesN_wf hwf0
    have s3 := fatesJ_spec livesN false ⟨1, 0⟩ livesN_wf hwf1
    rw [livesN_fates, livesN_right] at s1
    rw [livesN_loops, livesN_right] at s2
    rw [livesN_none, livesN_wrong] at s3
    simp only [if_true, Bool.false_eq_true, if_false] at s1 s2 s3
    clear hwf0 hwf1
    simp [hst, hrt]
    clear hst hrt
    generalize livesN = N at *
    generalize livesR = RR at *
    generalize hLF : livesF = LF at *
    refine CallX.pre (.fz [2, 3]) ?_
    simp
    refine CallK.v0 s1 rfl (by simp) rfl ?_
    simp -implicitDefEqProofs
    refine CallK.v0 s2 rfl (by simp) rfl ?_
    simp -implicitDefEqProofs
    refine CallK.v0 s3 rfl (by simp) rfl ?_
    simp -implicitDefEqProofs
    have hcount : countF 4 LF 0 = 3 := by rw [← hLF]; decide
    have hrow : ((LF.map Fate.iv) : List (List IV)) = [[.sc (.int .i64 4), .sc (.int .u8 4), .sc (.int .i64 4)], [.sc (.int .i64 5), .sc (.int .u8 4), .sc (.int .i64 7)], [.sc (.int .i64 7), .sc (.int .u8 4), .sc (.int .i64 7)], [.sc (.int .i64 8), .sc (.int .u8 3), .sc (.int .i64 9)]] := by rw [← hLF]; rfl
    have hsame : sameFL LF LF = true := by rw [← hLF]; decide
    have w1 := sameFt_spec LF LF
    have w2 := alike_spec [4, 7] [4, 7]
    have w3 := countJ_spec LF 4
    have w4 := differJ_spec LF (LF.drop 1) (by rw [← hLF]; decide) (by rw [← hLF]; decide) [4] (by simp) (by
      intro r
      rw [← hLF]
      simp only [livesF, firstF, List.drop_succ_cons, List.drop_zero, List.mem_singleton]
      by_cases h4 : r = 4
      · subst h4; simp
      · simp [h4, Ne.symm h4])
    have w5 := alike_spec [4] [4]
    rw [hcount] at w3
    rw [hsame] at w1
    simp only [decide_true] at w2 w5
    rw [List.map_drop] at w4
    simp only [rowL, rowI, List.map_cons, List.map_nil] at w2 w4 w5
    rw [hrow] at w1 w3 w4
    simp only [List.drop_succ_cons, List.drop_zero] at w4
    refine CallX.pre (.fz [4]) ?_
    simp -implicitDefEqProofs [rowL, hrow]
    clear hsame hcount s1 s2 s3
    refine CallK.v0 w1 rfl (by simp) rfl ?_
    simp -implicitDefEqProofs
    refine CallG.on ?_
    refine CallX.pre (.fz [5]) ?_
    simp -implicitDefEqProofs
    refine CallK.v0 w2 rfl (by simp [rowI]) rfl ?_
    simp -implicitDefEqProofs
    refine CallG.on (CallK.v0 w3 rfl (by simp) rfl ?_)
    simp -implicitDefEqProofs
    refine CallG.on (CallK.v0 w4 rfl (by simp) rfl ?_)
    simp -implicitDefEqProofs
    refine CallG.on ?_
    refine CallX.pre (.fz [6]) ?_
    simp -implicitDefEqProofs
    refine CallK.v0 w5 rfl (by simp) rfl ?_
    simp -implicitDefEqProofs
end Go.Am

set_option linter.unusedVariables false
set_option linter.unusedSimpArgs false
set_option pp.deepTerms false
set_option pp.deepTerms.threshold 40
namespace Go.Am
open Go.Proofs

/-! ### the law JudgeTells -/
theorem sameFL_self : ∀ l : List Fate, sameFL l l = true
  | [] => rfl
  | f :: l => by simp [sameFL, sameFL_self l]
theorem judgeTells_spec (n : Net) (six : Bool) (a : Addr4) (hw : n.wf) (ha : a.wf) : FSpec Tryz.prog 3 [n.av, .bool six, a.av] [] (.bool true) [] := by
  refine FSpec.bd (enters_of Tryz.func3 (by kernel_rfl) rfl) fun hbd => ?_
  have h1 := fatesJ_spec n six a hw ha
  have h2 := fatesR_spec n six a hw ha
  have h3 := loopsJ_spec n six a hw ha
  have h4 := loopsR_spec n six a hw ha
  have hll : (loopsN n six a).length ≤ 64 := by
    unfold loopsN
    split
    · rename_i e
      have h0 : netOk n = true := by unfold rightN at e; simp at e; exact e.1
      have := netOk_len h0
      have key : ∀ l : List Router, (loopsL n six a l).length ≤ l.length := by
        intro l
        induction l with
        | nil => simp [loopsL]
        | cons r l ih => rw [loopsL]; split <;> simp <;> omega
      have := key n.routers
      omega
    · simp
  refine FSpec.of_flat (q := [(10, .n 8)]) Tryz.func3 (by kernel_rfl) rfl Tryz.ntmps3 Tryz.results3 hP (by kernel_rfl) (by simp) (by first | rfl | simp) ?_
  simp -implicitDefEqProofs
  refine CallK.pv h1 rfl rfl ?_
  simp -implicitDefEqProofs
  refine CallK.pv h2 rfl rfl ?_
  simp -implicitDefEqProofs
  refine CallK.pv h3 rfl rfl ?_
  simp -implicitDefEqProofs
  refine CallK.pv h4 rfl rfl ?_
  simp -implicitDefEqProofs
  generalize loopsN n six a = L at *
  generalize fatesN n six a = F at *
  generalize hW : (if rightN n six a = true then (0 : Int) else 2) = W at *
  refine LoopK.plain (fun k : Nat => [(7, .im (.sl 3 (F.map Fate.iv))), (8, .int .i64 W), (9, .im (.sl 3 (F.map Fate.iv))), (10, .int .i64 W), (11, .im (.sl 1 (rowL L))), (12, .int .i64 W), (13, .im (.sl 1 (rowL L))), (14, .int .i64 W), (50, .int .i64 L.length), (51, .int .i64 k)])
    (fun k => k ≤ L.length) (fun k => L.length - k) 0 (Nat.zero_le _) (by simp) ?_
  intro k hk
  by_cases hlt : k < L.length
  · have e1 : IntKind.i64.wrap (k + 1) = (k + 1 : Nat) := wrap64 (by omega) (by omega)
    have hg := rowL_get L k hlt
    have hal := alike_spec L[k] L[k]
    simp only [decide_true] at hal
    simp -implicitDefEqProofs [hlt, hg, e1]
    first | refine CallK.same (hal) rfl rfl ?_ | refine CallQ.same (hal) rfl rfl ?_ | refine CallQG.same _ (hal) rfl ?_ | refine CallG.same _ (hal) rfl ?_ | refine CallK.pv (hal) rfl rfl ?_
    simp -implicitDefEqProofs [e1]
    refine Again.plain (k + 1) hlt (by omega) (by simp)
  · have hkk : k = L.length := by omega
    subst hkk
    have hsm := sameFt_spec F F
    rw [sameFL_self] at hsm
    simp -implicitDefEqProofs
    first | refine CallK.same (lives_spec) rfl rfl ?_ | refine CallQ.same (lives_spec) rfl rfl ?_ | refine CallQG.same _ (lives_spec) rfl ?_ | refine CallG.same _ (lives_spec) rfl ?_ | refine CallK.pv (lives_spec) rfl rfl ?_
    simp -implicitDefEqProofs
    first | refine CallK.same (hsm) rfl rfl ?_ | refine CallQ.same (hsm) rfl rfl ?_ | refine CallQG.same _ (hsm) rfl ?_ | refine CallG.same _ (hsm) rfl ?_ | refine CallK.pv (hsm) rfl rfl ?_
    simp -implicitDefEqProofs
end Go.Am

set_option linter.unusedVariables false
set_option linter.unusedSimpArgs false
set_option pp.deepTerms false
set_option pp.deepTerms.threshold 40
namespace Go.Am
open Go.Proofs

/-! ### what the laws are handed -/
theorem rows_of {α : Type} {f : α → List IV} {Q : α → Prop} {l : List Sh} (h : ∀ y, Sh.hasL l y → ∃ a, Q a ∧ y = f a) : ∀ xs : List (List IV), (∀ y ∈ xs, Sh.hasL l y) → ∃ zs : List α, xs = zs.map f ∧ ∀ a ∈ zs, Q a
  | [], _ => ⟨[], rfl, fun a ha => by cases ha⟩
  | x :: xs, hx => by
    obtain ⟨a, h1, h2⟩ := h x (hx x List.mem_cons_self)
    obtain ⟨zs, h3, h4⟩ := rows_of h xs fun y hy => hx y (List.mem_cons_of_mem _ hy)
    exact ⟨a :: zs, by rw [h2, h3]; rfl, fun b hb => by
      rcases List.mem_cons.1 hb with rfl | hb
      · exact h1
      · exact h4 b hb⟩
theorem hasL_cons {s : Sh} {l : List Sh} {xs : List IV} (h : Sh.hasL (s :: l) xs) : ∃ y ys, xs = y :: ys ∧ s.has y ∧ Sh.hasL l ys := by simpa only [Sh.hasL] using h
theorem hasL_nil {xs : List IV} (h : Sh.hasL [] xs) : xs = [] := by simpa only [Sh.hasL] using h
theorem has_int {q : IntKind} {x : IV} (h : (Sh.int q).has x) : ∃ n : Int, x = .sc (.int q n) ∧ (Lit.int q n).wf = true := by simpa only [Sh.has] using h
theorem has_bool {x : IV} (h : Sh.bool.has x) : ∃ b : Bool, x = .sc (.bool b) := by simpa only [Sh.has] using h
theorem has_sl {l : List Sh} {x : IV} (h : (Sh.sl l).has x) : ∃ xs : List (List IV), x = .sl l.length xs ∧ ∀ y ∈ xs, Sh.hasL l y := by simpa only [Sh.has] using h
theorem u64_wf {n : Int} (h : (Lit.int .u64 n).wf = true) : 0 ≤ n ∧ n < 18446744073709551616 := by
  simp [Lit.wf, IntKind.min, IntKind.max, IntKind.signed, IntKind.bits] at h
  omega
def seatSh : List Sh := [.int .i64, .int .u64, .int .i64, .bool]
def routeSh : List Sh := [.bool, .int .u64, .int .u64, .int .i64, .int .u8, .int .i64]
def linkSh : List Sh := [.int .i64, .int .i64]
def routerSh : List Sh := [.int .i64, .bool, .sl routeSh, .sl linkSh]
def netSh : List Sh := [.sl seatSh, .sl routerSh]
def addrSh : List Sh := [.int .u64, .int .u64]
def fateSh : List Sh := [.int .i64, .int .u8, .int .i64]
theorem seat_of (y : List IV) (h : Sh.hasL seatSh y) : ∃ s : Seat, True ∧ y = s.iv := by
  obtain ⟨a, _, rfl, ha, h⟩ := hasL_cons h
  obtain ⟨b, _, rfl, hb, h⟩ := hasL_cons h
  obtain ⟨c, _, rfl, hc, h⟩ := hasL_cons h
  obtain ⟨d, _, rfl, hd, h⟩ := hasL_cons h
  cases hasL_nil h
  obtain ⟨a, rfl, _⟩ := has_int ha
  obtain ⟨b, rfl, _⟩ := has_int hb
  obtain ⟨c, rfl, _⟩ := has_int hc
  obtain ⟨d, rfl⟩ := has_bool hd
  exact ⟨⟨a, b, c, d⟩, trivial, rfl⟩
theorem link_of (y : List IV) (h : Sh.hasL linkSh y) : ∃ s : Link, True ∧ y = s.iv := by
  obtain ⟨a, _, rfl, ha, h⟩ := hasL_cons h
  obtain ⟨b, _, rfl, hb, h⟩ := hasL_cons h
  cases hasL_nil h
  obtain ⟨a, rfl, _⟩ := has_int ha
  obtain ⟨b, rfl, _⟩ := has_int hb
  exact ⟨⟨a, b⟩, trivial, rfl⟩
theorem fate_of (y : List IV) (h : Sh.hasL fateSh y) : ∃ s : Fate, True ∧ y = s.iv := by
  obtain ⟨a, _, rfl, ha, h⟩ := hasL_cons h
  obtain ⟨b, _, rfl, hb, h⟩ := hasL_cons h
  obtain ⟨c, _, rfl, hc, h⟩ := hasL_cons h
  cases hasL_nil h
  obtain ⟨a, rfl, _⟩ := has_int ha
  obtain ⟨b, rfl, _⟩ := has_int hb
  obtain ⟨c, rfl, _⟩ := has_int hc
  exact ⟨⟨a, ⟨b, c⟩⟩, trivial, rfl⟩
theorem route_of (y : List IV) (h : Sh.hasL routeSh y) : ∃ s : Route, s.pfx.addr.wf ∧ y = s.iv := by
  obtain ⟨a, _, rfl, ha, h⟩ := hasL_cons h
  obtain ⟨b, _, rfl, hb, h⟩ := hasL_cons h
  obtain ⟨c, _, rfl, hc, h⟩ := hasL_cons h
  obtain ⟨d, _, rfl, hd, h⟩ := hasL_cons h
  obtain ⟨e, _, rfl, he, h⟩ := hasL_cons h
  obtain ⟨f, _, rfl, hf, h⟩ := hasL_cons h
  cases hasL_nil h
  obtain ⟨a, rfl⟩ := has_bool ha
  obtain ⟨b, rfl, wb⟩ := has_int hb
  obtain ⟨c, rfl, wc⟩ := has_int hc
  obtain ⟨d, rfl, _⟩ := has_int hd
  obtain ⟨e, rfl, _⟩ := has_int he
  obtain ⟨f, rfl, _⟩ := has_int hf
  exact ⟨⟨⟨a, ⟨b, c⟩, d⟩, ⟨e, f⟩⟩, ⟨(u64_wf wb).1, (u64_wf wb).2, u64_wf wc⟩, rfl⟩
theorem router_of (y : List IV) (h : Sh.hasL routerSh y) : ∃ s : Router, s.wf ∧ y = s.iv := by
  obtain ⟨a, _, rfl, ha, h⟩ := hasL_cons h
  obtain ⟨b, _, rfl, hb, h⟩ := hasL_cons h
  obtain ⟨c, _, rfl, hc, h⟩ := hasL_cons h
  obtain ⟨d, _, rfl, hd, h⟩ := hasL_cons h
  cases hasL_nil h
  obtain ⟨a, rfl, _⟩ := has_int ha
  obtain ⟨b, rfl⟩ := has_bool hb
  obtain ⟨c, rfl, wc⟩ := has_sl hc
  obtain ⟨d, rfl, wd⟩ := has_sl hd
  obtain ⟨rs, rfl, hr⟩ := rows_of route_of c wc
  obtain ⟨ls, rfl, _⟩ := rows_of link_of d wd
  exact ⟨⟨a, b, rs, ls⟩, hr, rfl⟩
theorem net_of (y : List IV) (h : Sh.hasL netSh y) : ∃ n : Net, n.wf ∧ y.map AV.im = [.im (.sl 4 (n.seats.map Seat.iv)), .im (.sl 4 (n.routers.map Router.iv))] := by
  obtain ⟨a, _, rfl, ha, h⟩ := hasL_cons h
  obtain ⟨b, _, rfl, hb, h⟩ := hasL_cons h
  cases hasL_nil h
  obtain ⟨a, rfl, wa⟩ := has_sl ha
  obtain ⟨b, rfl, wb⟩ := has_sl hb
  obtain ⟨ss, rfl, _⟩ := rows_of seat_of a wa
  obtain ⟨rs, rfl, hr⟩ := rows_of router_of b wb
  exact ⟨⟨ss, rs⟩, hr, rfl⟩
theorem addr_of (y : List IV) (h : Sh.hasL addrSh y) : ∃ a : Addr4, a.wf ∧ y.map AV.im = [.int .u64 a.hi, .int .u64 a.lo] := by
  obtain ⟨a, _, rfl, ha, h⟩ := hasL_cons h
  obtain ⟨b, _, rfl, hb, h⟩ := hasL_cons h
  cases hasL_nil h
  obtain ⟨a, rfl, wa⟩ := has_int ha
  obtain ⟨b, rfl, wb⟩ := has_int hb
  exact ⟨⟨a, b⟩, ⟨(u64_wf wa).1, (u64_wf wa).2, u64_wf wb⟩, rfl⟩
theorem hasArgs_cons {s : List Sh} {l : List (List Sh)} {xs : List (List IV)} (h : hasArgs (s :: l) xs) : ∃ y ys, xs = y :: ys ∧ Sh.hasL s y ∧ hasArgs l ys := h
/-- A net, whether six, an address. -/
theorem args_net {xs : List (List IV)} (h : hasArgs [netSh, [.bool], addrSh] xs) : ∃ (n : Net) (six : Bool) (a : Addr4), n.wf ∧ a.wf ∧ argsAV Tryz.prog [25, 4, 28] xs = [n.av, .bool six, a.av] := by
  obtain ⟨x, _, rfl, hx, h⟩ := hasArgs_cons h
  obtain ⟨y, _, rfl, hy, h⟩ := hasArgs_cons h
  obtain ⟨z, _, rfl, hz, h⟩ := hasArgs_cons h
  cases h
  obtain ⟨n, hn, en⟩ := net_of x hx
  obtain ⟨b, _, rfl, hb, hy⟩ := hasL_cons hy
  cases hasL_nil hy
  obtain ⟨six, rfl⟩ := has_bool hb
  obtain ⟨a, ha, ea⟩ := addr_of z hz
  refine ⟨n, six, a, hn, ha, ?_⟩
  simp only [argsAV, argAV, Tryz.underlying25, Tryz.underlying4, Tryz.underlying28, en, ea]
  rfl
end Go.Am
