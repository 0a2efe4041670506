import Derived.Shelf.SlSortCmp.WholeK
import Derived.Test.YtholjnkcajjiiaaGreatPD3
set_option linter.unusedVariables false
set_option linter.unusedSimpArgs false
namespace Go.Am
open Go.RowKit Go.Shelf Go.Sort Go.Proofs
variable {P : Program}

/-- Elements of k cells. -/
theorem sortFuncK {ρ : Ren} (L : SlLaysF0.n6 P ρ) {g : FuncId} (e : TypeId) (k : Nat) (hk0 : 0 < k) (aE : ∀ w, (isAgg (ρ.t 24)).run P w = .ok true w) (zE : ∀ w, (Go.sizeOf (ρ.t 24)).run P w = .ok k w)
    (xs S : List (List IV)) (cf : List IV → List IV → Int) (κ : List IV → Int) (eg : Enters P g) (hne : xs ≠ [])
    (hcmp : ∀ x y, x ∈ xs → y ∈ xs → FSpec P g [.agg (x.map .im), .agg (y.map .im)] [] (.int .i64 (cf x y)) []) (hκ : ∀ x y, x ∈ xs → y ∈ xs → (cf x y < 0 ↔ κ x < κ y)) (hlen : xs.length < 4611686018427387904)
    (hS : ∀ ys : List (List IV), ys.Perm xs → ys.Pairwise (fun x y => κ x ≤ κ y) → ys = S) : FSpec P (ρ.f 6) [.row 0, .fn g []] [.row e k xs] (.tup []) [.row e k S] := by
  refine ⟨L.f6.enters rfl, fun m w Y vs hO hY hsz hvs => ?_⟩
  obtain ⟨l, hl, A, cp, flat, rfl, hown, hone, hx1, hr⟩ := hO.objs 0 (.row e k xs) (by rw [stO_obj]; rfl)
  have hv0 : vs[0]? = some (.slice A xs.length cp) := by
    have hlt : 0 < vs.size := by rw [hsz]; simp
    have := hvs 0 (.row 0) vs[0] rfl (Array.getElem?_eq_getElem hlt)
    rw [Array.getElem?_eq_getElem hlt]
    generalize vs[0] = v at this
    cases this with | row hm => rw [hl] at hm; cases hm; rfl
  have hv1 : vs[1]? = some (.func (.func g) #[] #[]) := by
    have hlt : 1 < vs.size := by rw [hsz]; simp
    have := hvs 1 (.fn g []) vs[1] rfl (Array.getElem?_eq_getElem hlt)
    rw [Array.getElem?_eq_getElem hlt]
    generalize vs[1] = v at this
    cases this with | @fn _ _ cvs hl' _ =>
    have : cvs = #[] := by simpa using hl'
    rw [this]
  have hvs2 : vs = #[.slice A xs.length cp, .func (.func g) #[] #[]] := by
    apply Array.ext_getElem?
    intro i
    match i with
    | 0 => rw [hv0]; rfl
    | 1 => rw [hv1]; rfl
    | i + 2 => rw [Array.getElem?_eq_none (by rw [hsz]; simp)]; rfl
  subst hvs2
  obtain ⟨q, hq⟩ : ∃ q, xs.length = q + 1 := ⟨xs.length - 1, by have := List.length_pos_iff.2 hne; omega⟩
  obtain ⟨hfl, hcase⟩ := hown
  rcases hcase with ⟨_, h0⟩ | ⟨gb, cap, cur, hve, hg, hh, hle, hcm, hcs, htk⟩
  · rw [hq] at h0; cases h0
  obtain ⟨rfl, rfl⟩ : A = some ⟨gb, 0, none⟩ ∧ cp = cap := by simp at hve; exact hve
  clear hve
  have hin : ∀ i c, i < q + 1 → c < k → i * k + c < xs.length * k := by
    intro i c hi hc
    have := Nat.mul_le_mul_right k (show i + 1 ≤ q + 1 from hi)
    rw [hq, Nat.add_mul i, Nat.one_mul] at *
    omega
  have hflat : ∀ (t : Nat), t < xs.length * k → cur[t]? = some (flat.getD t Go.undef) := by
    intro i hi
    have h1 : flat[i]? = some (flat.getD i Go.undef) := by rw [List.getD_eq_getElem?_getD, List.getElem?_eq_getElem (by omega)]; rfl
    rw [← h1, ← htk, List.getElem?_take, if_pos (by omega), Array.getElem?_toList]
  have hgo : (stO [.row e k xs]).owned m gb := ⟨0, _, _, by rw [stO_obj]; rfl, rfl, hl, rfl⟩
  have hglt : gb < w.heap.size := (Array.getElem?_eq_some_iff.1 hh).1
  let enc : Fin (q + 1) → List Value := fun i => (List.range k).map fun c => flat.getD (i.1 * k + c) Go.undef
  have hk : ∀ x, (enc x).length = k := fun x => by simp [enc]
  have hec : ∀ x c, c < k → (enc x)[c]? = some (flat.getD (x.1 * k + c) Go.undef) := fun x c hc => by simp [enc, List.getElem?_range hc]
  let d : Array (Fin (q + 1)) := Array.ofFn id
  have hd : d.size = xs.length := by simp [d, hq]
  have hdg : ∀ j (hj : j < q + 1), d[j]! = ⟨j, hj⟩ := fun j hj => by
    rw [Array.getElem!_eq_getD, Array.getD_eq_getD_getElem?, Array.getElem?_eq_getElem (by simp [d]; exact hj)]
    simp [d]
  have hone' : ∀ t, t < xs.length * k → (flat.getD t Go.undef).oneCell' = true := fun t ht => hone _ (by
    rw [List.getD_eq_getElem?_getD, List.getElem?_eq_getElem (show t < flat.length by omega), Option.getD_some]
    exact List.getElem_mem _)
  have hfk : ∀ (D : Array (Fin (q + 1))) t, D.size = xs.length → t < xs.length * k → (flatK enc k D)[t]! = flat.getD ((D[t / k]!).1 * k + t % k) Go.undef := by
    intro D t hD ht
    have hm : t % k < k := Nat.mod_lt _ hk0
    rw [get_flatK _ _ _ _ (by rw [hD]; exact ht), List.getElem!_eq_getElem?_getD, hec _ _ hm]
    rfl
  have hH : HoldsK enc k w gb 0 d := by
    intro j hj
    rw [size_flatK, hd] at hj
    have hjk : j / k < q + 1 := by rw [← hq]; exact (Nat.div_lt_iff_lt_mul hk0).2 hj
    have h1 := hfk d j hd hj
    rw [hdg _ hjk] at h1
    have h2 : j / k * k + j % k = j := by rw [Nat.mul_comm]; exact Nat.div_add_mod j k
    simp only [h2] at h1
    rw [h1]
    constructor
    · unfold World.cell?
      simp only [hh, Nat.zero_add]
      exact hflat j hj
    · unfold World.frozen?
      simp only [hh]
      simp
  let el : Fin (q + 1) → List IV := fun i => xs[i.1]'(by rw [hq]; exact i.2)
  have hel : ∀ i, el i ∈ xs := fun i => List.getElem_mem _
  have hel1 : ∀ i, (el i).length = k := fun i => hx1 i.1 (el i) (List.getElem?_eq_getElem _)
  have hirep : ∀ (i : Fin (q + 1)) (c : Nat) (y : IV) (u : Value), (el i)[c]? = some y → (enc i)[c]? = some u → IRep (seen w fun b => (stO [.row e k xs]).owned m b ∨ Y b) y u := by
    intro i c y u hy hu
    have hc : c < k := by rw [← hel1 i]; exact (List.getElem?_eq_some_iff.1 hy).1
    rw [hec i c hc] at hu
    have hlt := hin i.1 c i.2 hc
    refine hr i.1 (el i) c y u (List.getElem?_eq_getElem _) hy ?_
    rw [← hu, List.getD_eq_getElem?_getD, List.getElem?_eq_getElem (by omega)]
    rfl
  have hsn : ∀ {W : World}, SortedW w W gb → ∀ p v, seen w (fun b => (stO [.row e k xs]).owned m b ∨ Y b) p v → seen W (fun b => (stO [.row e k xs]).owned m b ∨ Y b) p v := fun hW =>
    seen_mono (fun b hb hx => hW.block b hb (fun e => hx (by rw [e]; exact .inl hgo))) (fun _ _ h => h)
  have hwK : ∀ mm (dk : Array (Fin (q + 1))) os, sortWorldK enc k w gb 0 mm dk os = sortWorld id w gb 0 mm (flatK enc k dk) os := fun _ _ _ => rfl
  have hagg : ∀ (W : World), SortedW w W gb → ∀ i, VRep (fun _ => none) (seen W ((stO []).X (fun _ => none) fun b => (stO [.row e k xs]).owned m b ∨ Y b)) (.agg ((el i).map .im)) (.agg (enc i).toArray) := by
    intro W hW i
    have hmn : ∀ p v, seen w (fun b => (stO [.row e k xs]).owned m b ∨ Y b) p v → seen W ((stO []).X (fun _ => none) fun b => (stO [.row e k xs]).owned m b ∨ Y b) p v := fun p v hp => by
      obtain ⟨h1, h2⟩ := hsn hW p v hp
      exact ⟨h1, fun hx => hx.elim (fun hx => stO_nil_owned _ _ hx) h2⟩
    refine .agg (by simp [hk, hel1]) fun j y u hy hu => ?_
    rw [List.getElem?_map, Option.map_eq_some_iff] at hy
    obtain ⟨x, hx, rfl⟩ := hy
    exact .im ((hirep i j x u hx (by simpa using hu)).mono hmn)
  have hlays : CmpLays P g #[] enc k (fun i j => cf (el i) (el j)) gb 0 d.size w := by
    intro mm os dk hdk x y
    rw [hwK]
    have hW := sortWorld_w id w gb 0 mm (flatK enc k dk) os
    generalize sortWorld id w gb 0 mm (flatK enc k dk) os = W at hW ⊢
    have hsp := hcmp (el x) (el y) (hel x) (hel y)
    refine (hsp.2 (fun _ => none) W (fun b => (stO [.row e k xs]).owned m b ∨ Y b) #[.agg (enc x).toArray, .agg (enc y).toArray] ?_ ?_ ?_ ?_).mono ?_
    · exact { objs := fun n o hn => (by rw [stO_obj] at hn; simp at hn), apart := fun n n' o o' l l' b h1 => (by rw [stO_obj] at h1; simp at h1), foreign := fun b hb => (stO_nil_owned _ b hb).elim, fresh := fun _ _ => rfl }
    · intro b hb
      have := hW.size
      rcases hb with hb | hb
      · have := hO.owned_lt hb; omega
      · have := hY b hb; omega
    · rfl
    · intro j z u hj hu
      match j with
      | 0 => simp at hj hu; subst hj hu; exact hagg W hW x
      | 1 => simp at hj hu; subst hj hu; exact hagg W hW y
      | j + 2 => simp at hj
    · rintro e' w'' ⟨v, m', rfl, hv, _, hkept, _, _⟩
      have := hv.sc_inv
      subst this
      exact ⟨rfl, grow_of hkept (stO_nil_owned _)⟩
  have hO' := swo_key (cf := fun i j => cf (el i) (el j)) (κ := fun i => κ (el i)) (fun i j => hκ _ _ (hel i) (hel j))
  have hcon := AnyQ.slices_SortFunc L k aE zE enc hk (fun i v hv => by
    simp only [enc, List.mem_map, List.mem_range] at hv
    obtain ⟨c, hc, rfl⟩ := hv
    exact hone' _ (hin i.1 c i.2 hc)) (fun i j => cf (el i) (el j)) hO' g #[] gb 0 cp d w (fun args w => eg args w) hlays hH hglt (by rw [hd]; exact hlen)
  rw [hd] at hcon
  refine hcon.mono ?_
  rintro e' w' ⟨rfl, d', mm, os, hp, hs, rfl⟩
  rw [hwK]
  have hW := sortWorld_w id w gb 0 mm (flatK enc k d') os
  obtain ⟨hps, _, hpp⟩ := hp
  have hd' : d'.size = xs.length := by rw [hps, hd]
  have hd'q : d'.size = q + 1 := by rw [hd', hq]
  have hd'g : ∀ j (hj : j < q + 1), d'[j]! = d'[j]'(by rw [hd'q]; exact hj) := fun j hj => by
    rw [Array.getElem!_eq_getD, Array.getD_eq_getD_getElem?, Array.getElem?_eq_getElem (by rw [hd'q]; exact hj)]; rfl
  have hperm : d'.toList.Perm d.toList := by
    have hx1' : xs.length = d'.size := by omega
    have e1 : d'.extract 0 xs.length = d' := by rw [hx1']; simp
    have e2 : d.extract 0 xs.length = d := by rw [← hd]; simp
    rw [e1, e2] at hpp
    exact hpp
  have hdl : d.toList.map el = xs := by
    apply List.ext_getElem
    · simp [d, hq]
    · intro i h1 h2
      have h3 : i < d.size := by simpa using h1
      rw [List.getElem_map, Array.getElem_toList]
      have h4 : d[i] = ⟨i, by rw [hd, hq] at h3; exact h3⟩ := by simp [d]
      rw [h4]
  have hys : d'.toList.map el = S := by
    refine hS _ ?_ ?_
    · rw [← hdl]; exact hperm.map el
    · rw [List.pairwise_map, List.pairwise_iff_getElem]
      intro i j hi hj hij
      have hi' : i < q + 1 := by rw [← hd'q]; simpa using hi
      have hj' : j < q + 1 := by rw [← hd'q]; simpa using hj
      have := hs i j (Nat.zero_le _) hij (by rw [hq]; exact hj')
      rw [hd'g i hi', hd'g j hj'] at this
      unfold ltOf at this
      simp only [decide_eq_false_iff_not, hκ _ _ (hel _) (hel _)] at this
      simp only [Array.getElem_toList]
      omega
  have hnew : (sortWorld id w gb 0 mm (flatK enc k d') os).heap[gb]? = some (.cells (putCells id 0 (flatK enc k d') cur) e (0, 0)) := by
    rw [sortWorld_heap _ _ _ _ _ _ _ _ hglt]
    exact heap_mapBlock_same _ _ _ hh
  have hSl : S.length = xs.length := by rw [← hys, List.length_map, Array.length_toList, hd']
  have hfs : (flatK enc k d').size = xs.length * k := by rw [size_flatK, hd']
  have hown' : (stO [.row e k S]).owned m = (stO [.row e k xs]).owned m := by
    funext b
    apply propext
    constructor
    · rintro ⟨n, o, l, h1, h2, h3, h4⟩
      rw [stO_obj] at h1
      cases n with
      | zero => exact ⟨0, .row e k xs, l, by rw [stO_obj]; rfl, rfl, h3, h4⟩
      | succ n => simp at h1
    · rintro ⟨n, o, l, h1, h2, h3, h4⟩
      rw [stO_obj] at h1
      cases n with
      | zero => exact ⟨0, .row e k S, l, by rw [stO_obj]; rfl, rfl, h3, h4⟩
      | succ n => simp at h1
  have hget : ∀ t, t < xs.length * k → (flatK enc k d').toList[t]? = some (flat.getD ((d'[t / k]!).1 * k + t % k) Go.undef) := by
    intro t ht
    rw [Array.getElem?_toList, Array.getElem?_eq_getElem (by rw [hfs]; exact ht), ← hfk d' t hd' ht, Array.getElem!_eq_getD, Array.getD_eq_getD_getElem?, Array.getElem?_eq_getElem (by rw [hfs]; exact ht)]
    rfl
  refine ⟨_, m, rfl, .tup rfl (fun j y u h => by simp at h), ?_, ⟨hW.os, hW.tape, hW.output, hW.drawn, hW.size, fun b hb hz => hW.block b hb (fun e' => hz (by rw [e']; exact hgo))⟩, fun b hb => .inl (by rw [← hown']; exact hb), fun _ _ h => h⟩
  refine ⟨?_, ?_, ?_, ?_⟩
  · intro n o hn
    rw [stO_obj] at hn
    cases n with
    | succ n => simp at hn
    | zero =>
      simp at hn
      subst hn
      refine ⟨_, hl, some ⟨gb, 0, none⟩, cp, (flatK enc k d').toList, by rw [hSl], ⟨by rw [hSl, Array.length_toList, hfs], .inr ⟨gb, cp, putCells id 0 (flatK enc k d') cur, by rw [hSl], Nat.zero_le _, hnew, by rw [hSl]; exact hle, hcm, by simp [putCells, hcs], ?_⟩⟩, ?_, ?_, ?_⟩
      · rw [hSl]
        apply List.ext_getElem?
        intro i
        rw [List.getElem?_take]
        split
        · rename_i hi
          rw [hget i hi, Array.getElem?_toList]
          unfold putCells
          rw [Array.getElem?_mapIdx, hflat i hi]
          simp only [Option.map_some, Nat.zero_add, Nat.sub_zero]
          rw [if_pos ⟨Nat.zero_le _, by rw [hfs]; exact hi⟩, hfk d' i hd' hi]
          rfl
        · rw [List.getElem?_eq_none (by rw [Array.length_toList, hfs]; omega)]
      · intro u hu
        obtain ⟨t, ht, rfl⟩ := List.getElem_of_mem hu
        have ht' : t < xs.length * k := by rw [← hfs]; simpa using ht
        have h1 := hget t ht'
        rw [List.getElem?_eq_getElem ht] at h1
        rw [Option.some.inj h1]
        exact hone' _ (hin _ _ (d'[t / k]!).2 (Nat.mod_lt _ hk0))
      · intro i x hx
        rw [← hys, List.getElem?_map, Option.map_eq_some_iff] at hx
        obtain ⟨j, _, rfl⟩ := hx
        exact hel1 j
      · intro i x j y u hx hy hu
        rw [← hys, List.getElem?_map, Option.map_eq_some_iff] at hx
        obtain ⟨z, hz, rfl⟩ := hx
        have hj : j < k := by rw [← hel1 z]; exact (List.getElem?_eq_some_iff.1 hy).1
        have hi : i < q + 1 := by rw [← hd'q]; simpa using (List.getElem?_eq_some_iff.1 hz).1
        have hlt := hin i j hi hj
        have h1 := hget (i * k + j) hlt
        have e1 : (i * k + j) / k = i := by rw [Nat.mul_comm, Nat.mul_add_div hk0, Nat.div_eq_of_lt hj]; rfl
        have e2 : (i * k + j) % k = j := by rw [Nat.mul_comm, Nat.mul_add_mod, Nat.mod_eq_of_lt hj]
        have hz' : d'[i]! = z := by
          rw [hd'g i hi]
          rw [Array.getElem?_toList, Array.getElem?_eq_getElem (by rw [hd'q]; exact hi)] at hz
          exact Option.some.inj hz
        rw [e1, e2, hz', hu] at h1
        have h2 := hirep z j y u hy (by rw [hec z j hj, ← Option.some.inj h1])
        rw [hown']
        exact h2.mono (hsn hW)
  · intro n n' o o' l l' b h1 h2 _ _ _ _ _ _
    rw [stO_obj] at h1 h2
    cases n <;> cases n' <;> simp at h1 h2 ⊢
  · intro b hb
    rw [hown'] at hb
    exact hO.foreign b hb
  · intro n hn
    exact hO.fresh n hn
end Go.Am

