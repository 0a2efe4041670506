import Derived.Deep.LoopGhost
import Derived.Orders
import Derived.Test.YtnoggcmfnmmjcaaGreatDoorT1
set_option linter.unusedVariables false
set_option linter.unusedSimpArgs false
namespace Go.Am
open Go.RowKit
variable {P : Program} {E : Env} {st : St} {m : Nm} {w : World} {a : Act}

/-! ### 14b. A call that is handed what it may change -/
def nmX (nms : List Nat) (nx i : Nat) : Nat := if i < nms.length then nms.getD i 0 else nx + (i - nms.length)
def enumX (g : Nat → Nat) (f : AObj → AObj) : List AObj → Nat → List (Nat × AObj)
  | [], _ => []
  | o :: l, i => (g i, f o) :: enumX g f l (i + 1)
def St.after (st : St) (nms : List Nat) (outs : List AObj) : St :=
  { st with objs := enumX (nmX nms st.next) (AObj.ren (nmX nms st.next)) outs 0 ++ st.objs, next := st.next + (outs.length - nms.length) }

def CallO (P : Program) (f : FuncId) (args : List AV) (d : Option Nat) (k : St → Prop) (st : St) : Prop :=
  ∃ (fl nms : List Nat) (args' : List AV) (ins outs : List AObj) (r : AV), FSpec P f args' ins r outs ∧ nms.Nodup ∧ nms.length = ins.length ∧ ins.length ≤ outs.length ∧
    (∀ (i : Nat) (o : AObj), ins[i]? = some o → ∃ o', (st.freeze fl).obj (nmOf nms st.next i) = some o' ∧ o'.le (o.ren (nmOf nms st.next))) ∧
    AV.leL (args.map (AV.view (st.freeze fl))) (AV.renL (nmOf nms st.next) args') ∧ k (((st.freeze fl).after nms outs).put d (r.ren (nmX nms st.next)))

theorem mem_enumX {g : Nat → Nat} {f : AObj → AObj} : ∀ (l : List AObj) (i : Nat) (p : Nat × AObj), p ∈ enumX g f l i ↔ ∃ j o, l[j]? = some o ∧ p = (g (i + j), f o)
  | [], i, p => by simp [enumX]
  | x :: l, i, p => by
    simp only [enumX, List.mem_cons, mem_enumX l (i + 1) p]
    constructor
    · rintro (rfl | ⟨j, o, h1, rfl⟩)
      · exact ⟨0, x, rfl, rfl⟩
      · exact ⟨j + 1, o, by simpa using h1, by rw [show i + 1 + j = i + (j + 1) by omega]⟩
    · rintro ⟨j, o, h1, rfl⟩
      cases j with
      | zero => simp at h1; subst h1; exact .inl rfl
      | succ j => exact .inr ⟨j, o, by simpa using h1, by rw [show i + 1 + j = i + (j + 1) by omega]⟩

theorem lookA {α : Type} : ∀ (l l' : List (Nat × α)) (n : Nat), look (l ++ l') n = match look l n with | some x => some x | none => look l' n
  | [], l', n => rfl
  | (i, x) :: l, l', n => by
    simp only [List.cons_append, look]
    split
    · rfl
    · exact lookA l l' n
theorem look_no {α : Type} : ∀ (l : List (Nat × α)) (n : Nat), look l n = none → ∀ p ∈ l, p.1 ≠ n
  | [], n, h => fun p hp => by simp at hp
  | (i, x) :: l, n, h => by
    simp only [look] at h
    split at h
    · cases h
    · rename_i hi
      intro p hp
      rcases List.mem_cons.1 hp with rfl | hp
      · exact hi
      · exact look_no l n h p hp

theorem after_obj {nms : List Nat} {outs : List AObj} (hle : nms.length ≤ outs.length) {n : Nat} {o : AObj} (h : (st.after nms outs).obj n = some o) :
    (∃ i o0, outs[i]? = some o0 ∧ n = nmX nms st.next i ∧ o = o0.ren (nmX nms st.next)) ∨ (n ∉ nms ∧ st.obj n = some o) := by
  unfold St.after St.obj at h
  simp only at h
  rw [lookA] at h
  split at h
  · rename_i y hy
    cases h
    obtain ⟨j, o0, h1, h2⟩ := (mem_enumX _ _ _).1 (look_mem hy)
    rw [Nat.zero_add] at h2
    cases h2
    exact .inl ⟨j, o0, h1, rfl, rfl⟩
  · rename_i hy
    refine .inr ⟨fun hn => ?_, h⟩
    obtain ⟨i, hi, rfl⟩ := List.mem_iff_getElem.1 hn
    refine look_no _ _ hy (nmX nms st.next i, (outs[i]'(by omega)).ren (nmX nms st.next)) ((mem_enumX _ _ _).2 ⟨i, _, List.getElem?_eq_getElem (by omega), by rw [Nat.zero_add]⟩) ?_
    simp [nmX, hi]

theorem callO_sound {f : FuncId} {args : List AV} {d : Option Nat} {k : St → Prop} (h : SimF E st m a w) (hk : CallO P f args d k st) {vs : Array Value} (hsz : vs.size = args.length)
    (hvs : ∀ (j : Nat) (y : AV) (u : Value), args[j]? = some y → vs[j]? = some u → VRep m (seen w (st.X m E.Y)) y u) :
    Calls P f vs w fun e w' => ∃ v m' st', e = .returned v ∧ k st' ∧ SimF E st' m' (a.put d v) w' := by
  obtain ⟨fl, nms, args', ins, outs, r, hspec, hnd, hnl, hol, hins, hargs, hK⟩ := hk
  have z := h.freeze fl
  have hnx : (st.freeze fl).next = st.next := freeze_next fl st
  have hmono : ∀ (j : Nat) (y : AV) (u : Value), args[j]? = some y → vs[j]? = some u → VRep m (seen w ((st.freeze fl).X m E.Y)) y u := fun j y u h1 h2 =>
    (hvs j y u h1 h2).mono (fun _ _ h => h) (seen_mono (fun _ _ _ => rfl) fun b _ hx => hx.elim (fun hx => .inl (freeze_owned fl st b hx)) .inr)
  rw [← hnx] at hins hargs
  generalize st.freeze fl = s1 at *
  have hfresh : m s1.next = none := z.fresh _ (Nat.le_refl _)
  let ρ := nmOf nms s1.next
  have hρ : ∀ i (hi : i < nms.length), ρ i = nms[i] := fun i hi => by simp [ρ, nmOf, List.getElem?_eq_getElem hi]
  have hρ' : ∀ i, nms.length ≤ i → ρ i = max s1.next i := fun i hi => by simp [ρ, nmOf, List.getElem?_eq_none hi]
  have hinj : ∀ i j, i < nms.length → j < nms.length → ρ i = ρ j → i = j := by
    intro i j hi hj e
    rw [hρ i hi, hρ j hj] at e
    exact (List.getElem_inj hnd).1 e
  let m0 : Nm := fun i => if i < nms.length then m (ρ i) else none
  have hm0 : ∀ n l, m (ρ n) = some l → m0 n = some l := by
    intro n l hn
    rcases Nat.lt_or_ge n nms.length with h1 | h1
    · simp only [m0, if_pos h1]; exact hn
    · rw [hρ' n h1, z.fresh _ (Nat.le_max_left _ _)] at hn; cases hn
  have hm0' : ∀ n l, m0 n = some l → n < nms.length ∧ m (ρ n) = some l := by
    intro n l hn
    simp only [m0] at hn
    split at hn
    · rename_i h1; exact ⟨h1, hn⟩
    · cases hn
  -- whose block it is
  have hobjI : ∀ i o, ins[i]? = some o → i < nms.length ∧ ∃ o' l, s1.obj (ρ i) = some o' ∧ o'.le (o.ren ρ) ∧ m (ρ i) = some l := by
    intro i o hi
    obtain ⟨o', h1, h2⟩ := hins i o hi
    obtain ⟨l, hl, _⟩ := z.objs _ _ h1
    exact ⟨by have := (List.getElem?_eq_some_iff.1 hi).1; omega, o', l, h1, h2, hl⟩
  let Y0 : Nat → Prop := fun b => (∃ n o l, s1.obj n = some o ∧ o.owns = true ∧ m n = some l ∧ l.own = some b ∧ n ∉ nms) ∨ E.Y b
  have hownI : ∀ b, (stO ins).owned m0 b → ∃ i o', i < nms.length ∧ s1.obj (ρ i) = some o' ∧ o'.owns = true ∧ ∃ l, m (ρ i) = some l ∧ l.own = some b := by
    rintro b ⟨i, o, l, h1, h2, h3, h4⟩
    rw [stO_obj] at h1
    obtain ⟨hi, o', l', g1, g2, g3⟩ := hobjI i o h1
    obtain ⟨_, g4⟩ := hm0' i l h3
    exact ⟨i, o', hi, g1, AObj.le_owns g2 (by rw [AObj.ren_owns]; exact h2), l, g4, h4⟩
  have hownI1 : ∀ b, (stO ins).owned m0 b → s1.owned m b := by
    intro b hb
    obtain ⟨i, o', _, g1, g2, l, g3, g4⟩ := hownI b hb
    exact ⟨_, o', l, g1, g2, g3, g4⟩
  have hY1 : ∀ b, Y0 b → s1.X m E.Y b := by
    rintro b (⟨n, o, l, g1, g2, g3, g4, _⟩ | hb)
    · exact .inl ⟨n, o, l, g1, g2, g3, g4⟩
    · exact .inr hb
  have hnotI : ∀ b n o l, s1.obj n = some o → o.owns = true → m n = some l → l.own = some b → n ∉ nms → ¬ (stO ins).owned m0 b := by
    intro b n o l g1 g2 g3 g4 hn hb
    obtain ⟨i, o', hi, k1, k2, l', k3, k4⟩ := hownI b hb
    have := z.apart n (ρ i) o o' l l' b g1 k1 g2 k2 g3 k3 g4 k4
    rw [hρ i hi] at this
    exact hn (this ▸ List.getElem_mem hi)
  have hc0 : ∀ p v, seen w (s1.X m E.Y) p v → seen w ((stO ins).X m0 Y0) p v :=
    seen_mono (fun _ _ _ => rfl) fun b _ hx => hx.elim (fun hx => .inl (hownI1 b hx)) (hY1 b)
  have hlen : vs.size = args'.length := by
    have := leL_length _ _ hargs
    rw [AV.renL_eq] at this
    simpa using hsz.trans (by simpa using this)
  refine (hspec.2 m0 w Y0 vs ?_ ?_ hlen ?_).mono ?_
  · exact {
      objs := by
        intro n o hn
        rw [stO_obj] at hn
        obtain ⟨hi, o', l, g1, g2, g3⟩ := hobjI n o hn
        obtain ⟨l', hl', hr⟩ := z.objs _ _ g1
        rw [g3] at hl'; cases hl'
        refine ⟨l, hm0 n l g3, objRep_of_ren hm0 ?_⟩
        exact objRep_le (objRep_mono (fun _ _ h => h) hc0 (fun _ _ _ => rfl) hr) g2
      apart := by
        intro n n' o1 o2 l1 l2 b h1 h2 h3 h4 h5 h6 h7 h8
        rw [stO_obj] at h1 h2
        obtain ⟨hi, p1, q1, g1, g2, g3⟩ := hobjI n o1 h1
        obtain ⟨hi', p2, q2, k1, k2, k3⟩ := hobjI n' o2 h2
        obtain ⟨_, e1⟩ := hm0' n l1 h5
        obtain ⟨_, e2⟩ := hm0' n' l2 h6
        exact hinj n n' hi hi' (z.apart _ _ p1 p2 l1 l2 b g1 k1 (AObj.le_owns g2 (by rw [AObj.ren_owns]; exact h3)) (AObj.le_owns k2 (by rw [AObj.ren_owns]; exact h4)) e1 e2 h7 h8)
      foreign := by
        rintro b hb (⟨n, o, l, g1, g2, g3, g4, hn⟩ | hy)
        · exact hnotI b n o l g1 g2 g3 g4 hn hb
        · exact z.foreign b (hownI1 b hb) hy
      fresh := by
        intro n hn
        simp only [stO] at hn
        simp only [m0, if_neg (show ¬ n < nms.length by omega)] }
  · intro b hb
    rcases hY1 b hb with hx | hx
    · exact z.owned_lt hx
    · have := z.ylt b hx; have := z.kept.size; omega
  · intro j y u hy hu
    have hL := VRep.leL (m := m) (c := seen w (s1.X m E.Y)) _ hargs
    have h1 : VRep m (seen w (s1.X m E.Y)) (y.ren ρ) u := by
      refine hL.2 j (y.ren ρ) u (fun x hx => ?_) (by rw [AV.renL_eq]; simp [hy]; rfl)
      simp at hx
      obtain ⟨q, hq, rfl⟩ := hx
      exact view_rep z.toSimO (hmono j q u hq hu)
    exact (VRep.of_ren hm0 h1 rfl).mono (fun _ _ h => h) hc0
  · rintro e w' ⟨v, m', rfl, hr, hO, hkept, hnew, hext⟩
    let σ := nmX nms s1.next
    have hσ : ∀ i (hi : i < nms.length), σ i = nms[i] := fun i hi => by simp [σ, nmX, hi]
    have hσ' : ∀ i, nms.length ≤ i → σ i = s1.next + (i - nms.length) := fun i hi => by simp [σ, nmX, Nat.not_lt.2 hi]
    have hnlt : ∀ i (hi : i < nms.length), nms[i] < s1.next := by
      intro i hi
      have : ins[i]? = some (ins[i]'(by omega)) := List.getElem?_eq_getElem (by omega)
      obtain ⟨_, o', l, g1, _, g3⟩ := hobjI i _ this
      rw [hρ i hi] at g3
      rcases Nat.lt_or_ge nms[i] s1.next with h1 | h1
      · exact h1
      · rw [z.fresh _ h1] at g3; cases g3
    let m3 : Nm := fun n => if n < s1.next then m n else m' (nms.length + (n - s1.next))
    have key1 : ∀ n l, m n = some l → m3 n = some l := by
      intro n l hn
      have : n < s1.next := by
        rcases Nat.lt_or_ge n s1.next with h1 | h1
        · exact h1
        · rw [z.fresh n h1] at hn; cases hn
      simp only [m3, if_pos this]; exact hn
    have key2 : ∀ i l, m' i = some l → m3 (σ i) = some l := by
      intro i l hi
      rcases Nat.lt_or_ge i nms.length with h1 | h1
      · have : ins[i]? = some (ins[i]'(by omega)) := List.getElem?_eq_getElem (by omega)
        obtain ⟨_, o', l0, g1, _, g3⟩ := hobjI i _ this
        have := hext i l0 (hm0 i l0 g3)
        rw [hi] at this; cases this
        rw [hσ i h1, ← hρ i h1]
        exact key1 _ _ g3
      · rw [hσ' i h1]
        simp only [m3, if_neg (show ¬ s1.next + (i - nms.length) < s1.next by omega)]
        rw [show nms.length + (s1.next + (i - nms.length) - s1.next) = i by omega]
        exact hi
    have hσinj : ∀ i j, σ i = σ j → i = j := by
      intro i j e
      rcases Nat.lt_or_ge i nms.length with h1 | h1 <;> rcases Nat.lt_or_ge j nms.length with h2 | h2
      · rw [hσ i h1, hσ j h2] at e; exact (List.getElem_inj hnd).1 e
      · rw [hσ i h1, hσ' j h2] at e; have := hnlt i h1; omega
      · rw [hσ' i h1, hσ j h2] at e; have := hnlt j h2; omega
      · rw [hσ' i h1, hσ' j h2] at e; omega
    have hobj3 : ∀ n o, (s1.after nms outs).obj n = some o → (∃ i o0, outs[i]? = some o0 ∧ n = σ i ∧ o = o0.ren σ) ∨ (n ∉ nms ∧ s1.obj n = some o) := fun n o hn => after_obj (by omega) hn
    have hown3 : ∀ b, (s1.after nms outs).owned m3 b → (stO outs).owned m' b ∨ (∃ n o l, s1.obj n = some o ∧ o.owns = true ∧ m n = some l ∧ l.own = some b ∧ n ∉ nms) := by
      rintro b ⟨n, o, l, h1, h2, h3, h4⟩
      rcases hobj3 n o h1 with ⟨i, o0, g1, rfl, rfl⟩ | ⟨hn, g1⟩
      · left
        have hO1 := hO.objs i o0 (by rw [stO_obj]; exact g1)
        obtain ⟨l', hl', _⟩ := hO1
        have := key2 i l' hl'
        rw [h3] at this; cases this
        exact ⟨i, o0, l, by rw [stO_obj]; exact g1, by rw [← AObj.ren_owns σ]; exact h2, hl', h4⟩
      · right
        obtain ⟨l', hl', _⟩ := z.objs n o g1
        have := key1 n l' hl'
        rw [h3] at this; cases this
        exact ⟨n, o, l, g1, h2, hl', h4, hn⟩
    have hX31 : ∀ b, b < w.heap.size → (s1.after nms outs).X m3 E.Y b → s1.X m E.Y b := by
      rintro b hlt (hx | hx)
      · rcases hown3 b hx with hx | ⟨n, o, l, g1, g2, g3, g4, _⟩
        · rcases hnew b hx with hx | hx
          · exact .inl (hownI1 b hx)
          · omega
        · exact .inl ⟨n, o, l, g1, g2, g3, g4⟩
      · exact .inr hx
    have hc1 : ∀ p v, seen w (s1.X m E.Y) p v → seen w' ((s1.after nms outs).X m3 E.Y) p v :=
      seen_mono (fun b hb hx => hkept.block b hb fun hx' => hx (.inl (hownI1 b hx'))) hX31
    have hc2 : ∀ p v, seen w' ((stO outs).X m' Y0) p v → seen w' ((s1.after nms outs).X m3 E.Y) p v :=
      seen_mono (fun _ _ _ => rfl) fun b _ hx => by
        rcases hx with hx | hx
        · rcases hown3 b hx with hx | hx
          · exact .inl hx
          · exact .inr (.inl hx)
        · exact .inr (.inr hx)
    have hs : SimF E (s1.after nms outs) m3 a w' := {
      objs := by
        intro n o hn
        rcases hobj3 n o hn with ⟨i, o0, g1, rfl, rfl⟩ | ⟨hn', g1⟩
        · obtain ⟨l, hl, hrep⟩ := hO.objs i o0 (by rw [stO_obj]; exact g1)
          exact ⟨l, key2 i l hl, objRep_to_ren key2 (objRep_mono (fun _ _ h => h) hc2 (fun _ _ _ => rfl) hrep)⟩
        · obtain ⟨l, hl, hrep⟩ := z.objs n o g1
          refine ⟨l, key1 n l hl, objRep_mono key1 hc1 (fun b hbl ho => hkept.block b (z.owned_lt ⟨n, o, l, g1, ho, hl, hbl⟩) ?_) hrep⟩
          exact hnotI b n o l g1 ho hl hbl hn'
      apart := by
        intro n n' o1 o2 l1 l2 b h1 h2 h3 h4 h5 h6 h7 h8
        rcases hobj3 n o1 h1 with ⟨i, p, g1, rfl, rfl⟩ | ⟨hn, g1⟩ <;> rcases hobj3 n' o2 h2 with ⟨j, q, k1, rfl, rfl⟩ | ⟨hn', k1⟩
        · rw [AObj.ren_owns] at h3 h4
          obtain ⟨l, hl, _⟩ := hO.objs i p (by rw [stO_obj]; exact g1)
          obtain ⟨l', hl', _⟩ := hO.objs j q (by rw [stO_obj]; exact k1)
          have e1 := key2 i l hl; rw [h5] at e1; cases e1
          have e2 := key2 j l' hl'; rw [h6] at e2; cases e2
          rw [hO.apart i j p q l1 l2 b (by rw [stO_obj]; exact g1) (by rw [stO_obj]; exact k1) h3 h4 hl hl' h7 h8]
        · exfalso
          rw [AObj.ren_owns] at h3
          obtain ⟨l, hl, _⟩ := hO.objs i p (by rw [stO_obj]; exact g1)
          have e1 := key2 i l hl; rw [h5] at e1; cases e1
          obtain ⟨l', hl', _⟩ := z.objs n' o2 k1
          have e2 := key1 n' l' hl'; rw [h6] at e2; cases e2
          exact hO.foreign b ⟨i, p, l1, by rw [stO_obj]; exact g1, h3, hl, h7⟩ (.inl ⟨n', o2, l2, k1, h4, hl', h8, hn'⟩)
        · exfalso
          rw [AObj.ren_owns] at h4
          obtain ⟨l, hl, _⟩ := hO.objs j q (by rw [stO_obj]; exact k1)
          have e1 := key2 j l hl; rw [h6] at e1; cases e1
          obtain ⟨l', hl', _⟩ := z.objs n o1 g1
          have e2 := key1 n l' hl'; rw [h5] at e2; cases e2
          exact hO.foreign b ⟨j, q, l2, by rw [stO_obj]; exact k1, h4, hl, h8⟩ (.inl ⟨n, o1, l1, g1, h3, hl', h7, hn⟩)
        · obtain ⟨l, hl, _⟩ := z.objs n o1 g1
          have e1 := key1 n l hl; rw [h5] at e1; cases e1
          obtain ⟨l', hl', _⟩ := z.objs n' o2 k1
          have e2 := key1 n' l' hl'; rw [h6] at e2; cases e2
          exact z.apart n n' o1 o2 l1 l2 b g1 k1 h3 h4 hl hl' h7 h8
      foreign := by
        intro b hb hy
        rcases hown3 b hb with hx | ⟨n, o, l, g1, g2, g3, g4, _⟩
        · exact hO.foreign b hx (.inr hy)
        · exact z.foreign b ⟨n, o, l, g1, g2, g3, g4⟩ hy
      fresh := by
        intro n hn
        simp only [St.after] at hn
        simp only [m3, if_neg (show ¬ n < s1.next by omega)]
        exact hO.fresh _ (by simp only [stO]; omega)
      defers := fun d hd => (let ⟨b, e, hx⟩ := z.defers d hd; ⟨b, e, hc1 _ _ hx⟩)
      size := z.size
      fr := fun s y hy => (z.fr s y hy).mono key1 hc1
      kept := z.kept.trans hkept fun x hx hz => by
        rcases z.mine x (hownI1 x hz) with h1 | h1
        · exact h1
        · omega
      mine := by
        intro b hb
        rcases hown3 b hb with hx | ⟨n, o, l, g1, g2, g3, g4, _⟩
        · rcases hnew b hx with hx | hx
          · exact z.mine b (hownI1 b hx)
          · right; have := z.kept.size; omega
        · exact z.mine b ⟨n, o, l, g1, g2, g3, g4⟩
      mext := fun n l hn => key1 n l (z.mext n l hn)
      ylt := z.ylt
      esz := z.esz
      grd := z.grd
      dnd := z.dnd
      dge := z.dge
      ndf := z.ndf }
    refine ⟨v, m3, _, rfl, hK, ?_⟩
    have hv := (hr.mono (fun _ _ h => h) hc2).to_ren key2
    rw [← hnx]
    exact hs.put d hv
end Go.Am

set_option linter.unusedVariables false
set_option linter.unusedSimpArgs false
namespace Go.Am
open Go.RowKit
variable {P : Program} {E : Env} {st : St} {m : Nm} {w : World} {a : Act}

/-! ### 16b. Nil is a row without elements -/
/-- Where nil stands: in a slot, or in a box. -/
inductive NilAt where
  | sl (s : Nat) (e : TypeId) (k : Nat)
  | cl (n i : Nat) (e : TypeId) (k : Nat)
  | mv (n i : Nat)
  | fz (l : List Nat)
def viewF (s : St) : List (Nat × AV) → List (Nat × AV)
  | [] => []
  | (i, x) :: l => (i, x.view s) :: viewF s l
def AV.isNil : AV → Bool
  | .im (.sc (.slice none 0 0)) => true
  | _ => false
theorem AV.isNil_eq : ∀ {a : AV}, a.isNil = true → a = .im (.sc nilS)
  | .im (.sc (.slice none 0 0)), _ => rfl
def St.nil1 (st : St) : NilAt → St
  | .sl s e k => if ((look st.fr s).getD .undef).isNil then { st with fr := (s, .row st.next) :: st.fr, objs := (st.next, .row e k []) :: st.objs, next := st.next + 1 } else st
  | .cl n i e k => match look st.objs n with
    | some (.box t cs) => if ((cs[i]?).getD .undef).isNil then { st with objs := (n, .box t (cs.set i (.row st.next))) :: (st.next, .row e k []) :: st.objs, next := st.next + 1 } else st
    | _ => st
  | .mv n i => match look st.objs n with
    | some (.box t cs) => match (cs[i]?).getD .undef with
      | .row r => match look st.objs r with
        | some (.row e k xs) => { st with objs := (n, .box t (cs.set i (.row st.next))) :: (st.next, .row e k xs) :: (r, .gone) :: st.objs, next := st.next + 1 }
        | _ => st
      | _ => st
    | _ => st
  | .fz l => { st.freeze l with fr := viewF (st.freeze l) (st.freeze l).fr }

/-- What such a step keeps. -/
def Finer (st st' : St) (m m' : Nm) : Prop := (∀ n l, m n = some l → m' n = some l) ∧ ∀ b, st'.owned m' b → st.owned m b
theorem Finer.refl (st : St) (m : Nm) : Finer st st m m := ⟨fun _ _ h => h, fun _ h => h⟩
theorem Finer.new {st : St} {m m' : Nm} {e : TypeId} {k : Nat} {xs : List (List IV)} (hm : ∀ n l, m n = some l → m' n = some l) (hb : ∀ n, n ≠ st.next → m' n = m n) (h0 : m' st.next = some (.hdr none 0 0)) {s : St} (hs : s.objs = (st.next, .row e k xs) :: st.objs) : Finer st s m m' := by
  refine ⟨hm, ?_⟩
  rintro b ⟨n, o, l, h1, h2, h3, h4⟩
  simp only [St.obj, hs, look] at h1
  by_cases en : n = st.next
  · subst en; rw [h0] at h3; cases h3; cases h4
  · rw [if_neg (fun h => en h.symm)] at h1
    rw [hb n en] at h3
    exact ⟨n, o, l, h1, h2, h3, h4⟩
theorem look_viewF (s : St) : ∀ (l : List (Nat × AV)) (i : Nat), look (viewF s l) i = (look l i).map (AV.view s)
  | [], i => rfl
  | (j, x) :: l, i => by
    simp only [viewF, look]
    split
    · rfl
    · exact look_viewF s l i

/-- A row that a box holds has another name. -/
theorem SimF.mv (h : SimF E st m a w) {n i r : Nat} {t : TypeId} {cs : List AV} {e : TypeId} {k : Nat} {xs : List (List IV)} (hn : look st.objs n = some (.box t cs)) (hi : cs[i]? = some (.row r)) (hr : look st.objs r = some (.row e k xs)) :
    ∃ m', SimF E { st with objs := (n, .box t (cs.set i (.row st.next))) :: (st.next, .row e k xs) :: (r, .gone) :: st.objs, next := st.next + 1 } m' a w ∧ Finer st { st with objs := (n, .box t (cs.set i (.row st.next))) :: (st.next, .row e k xs) :: (r, .gone) :: st.objs, next := st.next + 1 } m m' := by
  have lt_of : ∀ x o, st.obj x = some o → x < st.next := fun x o hx => by
    obtain ⟨l, hl, _⟩ := h.objs x o hx
    rcases Nat.lt_or_ge x st.next with h1 | h1
    · exact h1
    · rw [h.fresh x h1] at hl; cases hl
  have hnlt := lt_of n _ hn
  have hrlt := lt_of r _ hr
  have hnr : n ≠ r := fun e => by subst e; rw [hn] at hr; cases hr
  obtain ⟨lr, hlr, hrr⟩ := h.objs r _ hr
  obtain ⟨ln, hln, hrn⟩ := h.objs n _ hn
  refine ⟨fun x => if x = st.next then some lr else m x, ?_⟩
  suffices hfin : Finer st { st with objs := (n, .box t (cs.set i (.row st.next))) :: (st.next, .row e k xs) :: (r, .gone) :: st.objs, next := st.next + 1 } m (fun x => if x = st.next then some lr else m x) ∧ _ from ⟨hfin.2, hfin.1⟩
  have hob : ∀ (x : Nat) (o : AObj), look ((n, AObj.box t (cs.set i (.row st.next))) :: (st.next, .row e k xs) :: (r, .gone) :: st.objs) x = some o →
      (x = n ∧ o = .box t (cs.set i (.row st.next))) ∨ (x = st.next ∧ o = .row e k xs) ∨ (x = r ∧ o = .gone) ∨ (x ≠ n ∧ x ≠ st.next ∧ x ≠ r ∧ st.obj x = some o) := by
    intro x o hx
    simp only [look] at hx
    by_cases e1 : n = x
    · rw [if_pos e1] at hx; cases hx; exact .inl ⟨e1.symm, rfl⟩
    · rw [if_neg e1] at hx
      by_cases e2 : st.next = x
      · rw [if_pos e2] at hx; cases hx; exact .inr (.inl ⟨e2.symm, rfl⟩)
      · rw [if_neg e2] at hx
        by_cases e3 : r = x
        · rw [if_pos e3] at hx; cases hx; exact .inr (.inr (.inl ⟨e3.symm, rfl⟩))
        · rw [if_neg e3] at hx; exact .inr (.inr (.inr ⟨fun h => e1 h.symm, fun h => e2 h.symm, fun h => e3 h.symm, hx⟩))
  -- who owns
  have old : ∀ (x : Nat) (o : AObj) (l : Loc), look ((n, AObj.box t (cs.set i (.row st.next))) :: (st.next, .row e k xs) :: (r, .gone) :: st.objs) x = some o → o.owns = true → (if x = st.next then some lr else m x) = some l →
      ∃ y o', st.obj y = some o' ∧ o'.owns = true ∧ m y = some l ∧ ((x = st.next ∧ y = r) ∨ (x ≠ st.next ∧ y = x ∧ x ≠ r)) := by
    intro x o l hx ho hl
    rcases hob x o hx with ⟨rfl, rfl⟩ | ⟨rfl, rfl⟩ | ⟨rfl, rfl⟩ | ⟨h1, h2, h3, h4⟩
    · rw [if_neg (by omega)] at hl
      exact ⟨x, _, hn, rfl, hl, .inr ⟨by omega, rfl, hnr⟩⟩
    · rw [if_pos rfl] at hl
      cases hl
      exact ⟨r, _, hr, rfl, hlr, .inl ⟨rfl, rfl⟩⟩
    · cases ho
    · rw [if_neg h2] at hl
      exact ⟨x, o, h4, ho, hl, .inr ⟨h2, rfl, h3⟩⟩
  have hown : ∀ b, ({ st with objs := (n, .box t (cs.set i (.row st.next))) :: (st.next, .row e k xs) :: (r, .gone) :: st.objs, next := st.next + 1 } : St).owned (fun x => if x = st.next then some lr else m x) b → st.owned m b := by
    rintro b ⟨x, o, l, h1, h2, h3, h4⟩
    obtain ⟨y, o', g1, g2, g3, _⟩ := old x o l h1 h2 h3
    exact ⟨y, o', l, g1, g2, g3, h4⟩
  have hm : ∀ x l, m x = some l → (if x = st.next then some lr else m x) = some l := by
    intro x l hx
    have : x ≠ st.next := by rintro rfl; rw [h.fresh _ (Nat.le_refl _)] at hx; cases hx
    rw [if_neg this]; exact hx
  have hc : ∀ p v, seen w (fun b => st.owned m b ∨ E.Y b) p v → seen w (fun b => ({ st with objs := (n, .box t (cs.set i (.row st.next))) :: (st.next, .row e k xs) :: (r, .gone) :: st.objs, next := st.next + 1 } : St).owned (fun x => if x = st.next then some lr else m x) b ∨ E.Y b) p v :=
    seen_mono (fun _ _ _ => rfl) (fun b _ hx => hx.elim (fun hx => .inl (hown b hx)) .inr)
  refine ⟨⟨hm, hown⟩, ?_⟩
  exact {
    objs := by
      intro x o hx
      rcases hob x o hx with ⟨rfl, rfl⟩ | ⟨rfl, rfl⟩ | ⟨rfl, rfl⟩ | ⟨h1, h2, h3, h4⟩
      · refine ⟨ln, by rw [if_neg (by omega)]; exact hln, ?_⟩
        obtain ⟨b, arr, rfl, hh, hsz, hone, hcell⟩ := hrn
        refine ⟨b, arr, rfl, hh, by simpa using hsz, hone, fun j y u k1 k2 => ?_⟩
        rw [List.getElem?_set] at k1
        split at k1
        · rename_i hij
          subst hij
          split at k1
          · cases k1
            have := hcell i _ u hi k2
            cases this with | row hml =>
            rw [hlr] at hml
            cases hml
            exact .row (by simp)
          · cases k1
        · exact (hcell j y u k1 k2).mono hm hc
      · refine ⟨lr, by simp, ?_⟩
        exact objRep_mono hm hc (fun _ _ _ => rfl) hrr
      · exact ⟨lr, by rw [if_neg (by omega)]; exact hlr, trivial⟩
      · obtain ⟨l, hl, hrep⟩ := h.objs x o h4
        exact ⟨l, hm x l hl, objRep_mono hm hc (fun _ _ _ => rfl) hrep⟩
    apart := by
      intro x x' o o' l l' b h1 h2 h3 h4 h5 h6 h7 h8
      obtain ⟨y, p, g1, g2, g3, g4⟩ := old x o l h1 h3 h5
      obtain ⟨y', p', k1, k2, k3, k4⟩ := old x' o' l' h2 h4 h6
      have := h.apart y y' p p' l l' b g1 k1 g2 k2 g3 k3 h7 h8
      subst this
      rcases g4 with ⟨e1, e2⟩ | ⟨e1, e2, e3⟩ <;> rcases k4 with ⟨e4, e5⟩ | ⟨e4, e5, e6⟩
      · rw [e1, e4]
      · exact absurd (e5.symm.trans e2) e6
      · exact absurd (e2.symm.trans e5) e3
      · rw [← e2, ← e5]
    foreign := fun b hb => h.foreign b (hown b hb)
    fresh := fun x hx => by
      have hx' : st.next + 1 ≤ x := hx
      rw [if_neg (by omega)]
      exact h.fresh x (by omega)
    defers := fun d hd => (let ⟨b, e, hx⟩ := h.defers d hd; ⟨b, e, hc _ _ hx⟩)
    size := h.size
    fr := fun s y hy => (h.fr s y hy).mono hm hc
    kept := h.kept
    mine := fun b hb => h.mine b (hown b hb)
    mext := fun x l hx => hm x l (h.mext x l hx)
    ylt := h.ylt
    esz := h.esz
    grd := h.grd
    dnd := h.dnd
    dge := h.dge
    ndf := h.ndf }
theorem SimF.nil1 (h : SimF E st m a w) (x : NilAt) : ∃ m', SimF E (st.nil1 x) m' a w ∧ Finer st (st.nil1 x) m m' := by
  have hnew : ∀ (e : TypeId) (k : Nat), ∃ m', m' st.next = some (.hdr none 0 0) ∧ (∀ n l, m n = some l → m' n = some l) ∧ (∀ n, n ≠ st.next → m' n = m n) ∧ SimF E (st.new (.row e k [])) m' a w := by
    intro e k
    obtain ⟨g, hm⟩ := h.new (Below.refl _ _) (.row e k []) (.hdr none 0 0) (fun b hb _ => by cases hb) (fun m' c' _ _ => ⟨none, 0, [], rfl, World.ownsRow_nil w 0 e k, by simp, by simp, by simp⟩)
    exact ⟨_, by simp, hm, fun n hn => by simp [hn], g⟩
  cases x with
  | sl s e k =>
    simp only [St.nil1]
    split
    · rename_i hn
      have hn := AV.isNil_eq hn
      obtain ⟨m', hm1, hm2, hm3, g⟩ := hnew e k
      refine ⟨m', { objs := g.objs, apart := g.apart, foreign := g.foreign, fresh := g.fresh, defers := g.defers, size := g.size, fr := ?_, kept := g.kept, mine := g.mine, mext := g.mext, ylt := g.ylt, esz := g.esz, grd := g.grd, dnd := g.dnd, dge := g.dge, ndf := g.ndf }, Finer.new hm2 hm3 hm1 rfl⟩
      intro s' y hy
      simp only [look] at hy
      split at hy
      · rename_i e'
        subst e'
        cases hy
        have hv := raw_rep h.fr s
        unfold St.raw at hv
        rw [hn] at hv
        rw [hv.sc_inv]
        exact .row hm1
      · exact g.fr s' y hy
    · exact ⟨m, h, Finer.refl _ _⟩
  | cl n i e k =>
    simp only [St.nil1]
    split
    · rename_i t cs hob
      split
      · rename_i hn
        have hn := AV.isNil_eq hn
        obtain ⟨m', hm1, hm2, hm3, g⟩ := hnew e k
        have hlt : n < st.next := by
          obtain ⟨l, hl, _⟩ := h.objs n _ hob
          rcases Nat.lt_or_ge n st.next with h1 | h1
          · exact h1
          · rw [h.fresh n h1] at hl; cases hl
        have hob' : (st.new (.row e k [])).obj n = some (.box t cs) := by
          simp only [St.new, St.obj, look]
          rw [if_neg (by omega)]
          exact hob
        obtain ⟨l, hl, b, arr, rfl, hh, hsz, hone, hr⟩ := g.objs n _ hob'
        have hfn := Finer.new (s := st.new (.row e k [])) hm2 hm3 hm1 rfl
        refine ⟨m', g.upd hob' rfl hl rfl ⟨rfl, rfl, rfl, Nat.le_refl _, fun _ _ _ => rfl⟩ (.box t (cs.set i (.row st.next))) rfl ⟨b, arr, rfl, hh, by simpa using hsz, hone, fun j y u h1 h2 => ?_⟩, hm2, fun b' hb' => hfn.2 b' ?_⟩
        · rw [List.getElem?_set] at h1
          split at h1
          · rename_i hij
            subst hij
            split at h1
            · rename_i hlt'
              cases h1
              have := hr i (.im (.sc nilS)) u (by rw [List.getElem?_eq_getElem hlt'] at hn ⊢; simpa using hn) h2
              rw [this.sc_inv]
              exact .row hm1
            · cases h1
          · exact hr j y u h1 h2
        · have := setObj_owned (m := m') hob' (o' := .box t (cs.set i (.row st.next))) rfl rfl
          rw [← this]
          exact hb'
      · exact ⟨m, h, Finer.refl _ _⟩
    · exact ⟨m, h, Finer.refl _ _⟩
  | mv n i =>
    simp only [St.nil1]
    split
    · rename_i t cs hn
      split
      · rename_i r hi
        split
        · rename_i e k xs hr
          have hi : cs[i]? = some (.row r) := by
            cases hx : cs[i]? with
            | none => rw [hx] at hi; cases hi
            | some y => rw [hx] at hi; rw [Option.getD_some] at hi; rw [hi]
          exact h.mv hn hi hr
        · exact ⟨m, h, Finer.refl _ _⟩
      · exact ⟨m, h, Finer.refl _ _⟩
    · exact ⟨m, h, Finer.refl _ _⟩
  | fz l =>
    have g := h.freeze l
    refine ⟨m, { objs := g.objs, apart := g.apart, foreign := g.foreign, fresh := g.fresh, defers := g.defers, size := g.size, fr := ?_, kept := g.kept, mine := g.mine, mext := g.mext, ylt := g.ylt, esz := g.esz, grd := g.grd, dnd := g.dnd, dge := g.dge, ndf := g.ndf }, fun _ _ h => h, fun b hb => freeze_owned l st b hb⟩
    intro s y hy
    have hy : look (viewF (st.freeze l) (st.freeze l).fr) s = some y := hy
    rw [look_viewF, Option.map_eq_some_iff] at hy
    obtain ⟨x, hx, rfl⟩ := hy
    exact view_rep g.toSimO (g.fr s x hx)
def St.nils (st : St) : List NilAt → St
  | [] => st
  | x :: l => (st.nil1 x).nils l
theorem SimF.nils : ∀ (l : List NilAt) {st : St} {m : Nm}, SimF E st m a w → ∃ m', SimF E (st.nils l) m' a w ∧ Finer st (st.nils l) m m'
  | [], _, m, h => ⟨m, h, Finer.refl _ _⟩
  | x :: l, _, _, h => by
    obtain ⟨m', h', hf⟩ := h.nil1 x
    obtain ⟨m2, h2, hf2⟩ := SimF.nils l h'
    exact ⟨m2, h2, fun n l hn => hf2.1 n l (hf.1 n l hn), fun b hb => hf.2 b (hf2.2 b hb)⟩
end Go.Am

set_option linter.unusedVariables false
set_option linter.unusedSimpArgs false
namespace Go.Am
open Go.RowKit
variable {P : Program} {E : Env} {st : St} {m : Nm} {w : World} {a : Act}

/-! ### 15. Regions -/
def gcv (b want : Bool) : Bool := if want then b else !b

/-- .. that is handed nil for a row without elements. -/
def CallN (P : Program) (f : FuncId) (args : List AV) (d : Option Nat) (k : St → Prop) (st : St) : Prop :=
  ∃ (j : Nat) (e : TypeId) (c : Nat), (args[j]?.getD .undef).isNil = true ∧ CallO P f (args.set j (.row st.next)) d k (st.new (.row e c []))
def CallY (P : Program) (f : FuncId) (args : List AV) (d : Option Nat) (k : St → Prop) (st : St) : Prop := CallK P f args d k st ∨ CallO P f args d k st ∨ CallN P f args d k st
/-- A call, behind steps by which a state is seen in another way. -/
def CallX (P : Program) (f : FuncId) (args : List AV) (d : Option Nat) (k : St → Prop) (st : St) : Prop := ∃ ns : List NilAt, CallY P f args d k (st.nils ns)
theorem CallX.enters {f : FuncId} {args : List AV} {d : Option Nat} {k : St → Prop} (h : CallX P f args d k st) : Enters P f := by
  obtain ⟨ns, h⟩ := h
  rcases h with ⟨_, _, _, _, h, _⟩ | ⟨_, _, _, _, _, _, h, _⟩ | ⟨_, _, _, _, _, _, _, _, _, _, h, _⟩
  · exact h.1
  · exact h.1
  · exact h.1
theorem callN_sound {f : FuncId} {args : List AV} {d : Option Nat} {k : St → Prop} (h : SimF E st m a w) (hk : CallN P f args d k st) {vs : Array Value} (hsz : vs.size = args.length)
    (hvs : ∀ (j : Nat) (y : AV) (u : Value), args[j]? = some y → vs[j]? = some u → VRep m (seen w (st.X m E.Y)) y u) :
    Calls P f vs w fun e w' => ∃ v m' st', e = .returned v ∧ k st' ∧ SimF E st' m' (a.put d v) w' := by
  obtain ⟨j, e, c, hj, hk⟩ := hk
  have hj := AV.isNil_eq hj
  obtain ⟨g, hm⟩ := h.new (Below.refl _ _) (.row e c []) (.hdr none 0 0) (fun b hb _ => by cases hb) (fun m' c' _ _ => ⟨none, 0, [], rfl, World.ownsRow_nil w 0 e c, by simp, by simp, by simp⟩)
  have hX : ∀ b, (st.new (.row e c [])).X (fun n => if n = st.next then some (.hdr none 0 0) else m n) E.Y b → st.X m E.Y b := by
    rintro b (hx | hx)
    · exact .inl ((Finer.new (s := st.new (.row e c [])) hm (fun n hn => by simp [hn]) (by simp) rfl).2 b hx)
    · exact .inr hx
  refine callO_sound g hk (by simpa using hsz) fun i y u h1 h2 => ?_
  rw [List.getElem?_set] at h1
  split at h1
  · rename_i hij
    subst hij
    split at h1
    · rename_i hlt
      cases h1
      have := hvs j (.im (.sc nilS)) u (by rw [List.getElem?_eq_getElem hlt] at hj ⊢; simpa using hj) h2
      rw [this.sc_inv]
      exact .row (by simp)
    · cases h1
  · exact (hvs i y u h1 h2).mono hm (seen_mono (fun _ _ _ => rfl) fun b _ hx => hX b hx)
theorem callX_sound {f : FuncId} {args : List AV} {d : Option Nat} {k : St → Prop} (h : SimF E st m a w) (hk : CallX P f args d k st) {vs : Array Value} (hsz : vs.size = args.length)
    (hvs : ∀ (j : Nat) (y : AV) (u : Value), args[j]? = some y → vs[j]? = some u → VRep m (seen w (st.X m E.Y)) y u) :
    Calls P f vs w fun e w' => ∃ v m' st', e = .returned v ∧ k st' ∧ SimF E st' m' (a.put d v) w' := by
  obtain ⟨ns, hk⟩ := hk
  obtain ⟨m1, g, hm, ho⟩ := SimF.nils ns h
  have hvs1 : ∀ (j : Nat) (y : AV) (u : Value), args[j]? = some y → vs[j]? = some u → VRep m1 (seen w ((st.nils ns).X m1 E.Y)) y u := fun j y u h1 h2 =>
    (hvs j y u h1 h2).mono hm (seen_mono (fun _ _ _ => rfl) fun b _ hx => hx.elim (fun hx => .inl (ho b hx)) .inr)
  rcases hk with hk | hk | hk
  · exact callK_sound g hk hsz hvs1
  · exact callO_sound g hk hsz hvs1
  · exact callN_sound g hk hsz hvs1

/-- A call under a guard: of a function that hands back a scalar; or the guard holds. -/
def CallG (P : Program) (c : Bool) (f : FuncId) (args : List AV) (d : Option Nat) (k : St → Prop) (st : St) : Prop :=
  (∃ (fl : List Nat) (args' : List AV) (v : Value), (c = true → FSpec P f args' [] (.im (.sc v)) [] ∧ argsOk (st.freeze fl) args args') ∧ AV.pureL args' = true ∧ k (st.put d (.cond c (.im (.sc v))))) ∨ (c = true ∧ CallX P f args d k st)

def effK (r : Option (Bool × St)) (k : St → Prop) : Prop :=
  match r with
  | some (s, st') => s = true ∧ k st'
  | none => False

def cfOp (P : Program) (o : Oper) (k : St → Prop) (st : St) : Prop :=
  match o.op with
  | .alloc _ | .box _ _ => match aDo P st o with
    | some st' => k st'
    | none => False
  | .store _ _ _ => match aDo P st o with
    | some st' => k st'
    | none => effK (aEff P st o) k
  | .buildSlice _ _ _ | .makeSlice _ _ _ => effK (aEff P st o) k
  | .makeMap _ _ | .mapUpdate _ _ _ _ | .range _ _ => effK (aMp P st o) k
  | .next x false => NextK st o x k
  | .slice t x none (some h) none => (match aVal P st (.slice t x none (some h) none) with
    | some (s, r) => s = true ∧ k (st.put o.dst r)
    | none => False) ∨ effK (aMp P st o) k
  | .call c => match c.callee with
    | .value f => match st.ev f with
      | .fn g cap => CallX P g (c.args.toList.map st.ev ++ cap) o.dst k st
      | _ => False
    | .builtin .append => match aEff P st o with
      | some (s, st') => s = true ∧ k st'
      | none => effK (aMp P st o) k
    | .builtin .copy => effK (aMp P st o) k
    | _ => match aVal P st o.op with
      | some (s, r) => s = true ∧ k (st.put o.dst r)
      | none => False
  | op => match aVal P st op with
    | some (s, r) => s = true ∧ k (st.put o.dst r)
    | none => False

def cfG (P : Program) (o : Oper) (c : Bool) (k : St → Prop) (st : St) : Prop :=
  match o.op with
  | .alloc _ | .box _ _ | .store _ _ _ => (c = true → match aDo P st o with
    | some st' => k st'
    | none => False) ∧ (c = false → k (st.put o.dst .undef))
  | .call cl => match cl.callee with
    | .value f => match ({ st with grd := some c } : St).ev f with
      | .fn g cap => CallG P c g (cl.args.toList.map ({ st with grd := some c } : St).ev ++ cap) o.dst k st
      | _ => False
    | _ => match aVal P { st with grd := some c } o.op with
      | some (s, r) => (c = true → s = true) ∧ k (st.put o.dst (.cond c r))
      | none => c = false ∧ k (st.put o.dst (.cond c .undef))
  | op => match aVal P { st with grd := some c } op with
    | some (s, r) => (c = true → s = true) ∧ k (st.put o.dst (.cond c r))
    | none => (c = false ∧ k (st.put o.dst (.cond c .undef))) ∨ (c = true ∧ cfOp P o k st)

/-- The guard's value: a known bool; or one that is there under another guard alone. -/
def guardOf (x : AV) (want : Bool) : Option Bool :=
  match x with
  | .im (.sc (.bool b)) => some (gcv b want)
  | .cond c (.im (.sc (.bool b))) => some (c && gcv b want)
  | _ => none

def cfOps (P : Program) (ops : List Oper) : List Oper → (St → Prop) → St → Prop
  | [], k, st => k st
  | o :: rest, k, st => match o.guard with
    | none => cfOp P o (cfOps P ops rest k) st
    | some (j, want) => match (ops[j]?).bind (·.dst) with
      | none => False
      | some g => match guardOf (st.raw g) want with
        | some c => cfG P o c (cfOps P ops rest k) st
        | none => False

/-! ### 16. .. and that it is so -/
theorem aVal_wp {o : Oper} {s : Bool} {r : AV} {K : Act → World → Prop} {Q : Exit → Act → World → Prop} (h : SimF E st m a w) {g : Option Bool} (hg : ∀ c, g = some c → c = true)
    (hv : aVal P { st with grd := g } o.op = some (s, r)) (hs : s = true) (hk : ∀ v, VRep m (seen w (st.X m E.Y)) r v → K (a.put o.dst v) w) : o.wp P a w K Q := by
  obtain ⟨v, h1, h2⟩ := aVal_sound (P := P) (Y := E.Y) (st := { st with grd := g }) (m := m) (w := w) (a := a) ⟨h.objs, h.apart, h.foreign, h.fresh⟩ (fun t => get_rep (st := { st with grd := g }) hg h.fr t) (fun t => raw_rep (st := { st with grd := g }) h.fr t) o hv hs
  exact wp_of_value (h2 w fun _ _ => rfl) (hk v h1)

theorem args_rep {Y : Nat → Prop} (hget : ∀ t, VRep m (seen w (st.X m Y)) (st.get t) (a.tmps.getD t Go.undef)) (args : Array Operand) {cap : List AV} {vs : Array Value} (hl : vs.size = cap.length)
    (hr : ∀ (j : Nat) (y : AV) (u : Value), cap[j]? = some y → vs[j]? = some u → VRep m (seen w (st.X m Y)) y u) :
    (args.map a.eval ++ vs).size = (args.toList.map st.ev ++ cap).length ∧ ∀ (j : Nat) (y : AV) (u : Value), (args.toList.map st.ev ++ cap)[j]? = some y → (args.map a.eval ++ vs)[j]? = some u → VRep m (seen w (st.X m Y)) y u := by
  refine ⟨by simp [hl], fun j y u h1 h2 => ?_⟩
  rw [List.getElem?_append] at h1
  rw [Array.getElem?_append] at h2
  simp only [List.length_map, Array.length_toList, Array.size_map] at h1 h2
  split at h1
  · rename_i hj
    rw [if_pos hj] at h2
    simp [hj] at h1 h2
    subst h1 h2
    exact ev_rep hget _
  · rename_i hj
    rw [if_neg hj] at h2
    exact hr _ y u h1 h2

theorem call_run {o : Oper} {c : Call} {f : Operand} (ho : o.op = .call c) (hf : c.callee = .value f) {g : FuncId} {vs : Array Value} (hv : a.eval f = .func (.func g) #[] vs) (he : Enters P g) (w : World) :
    (execOp a.eval o).run P w = .ok (.enter g (c.args.map a.eval ++ vs)) w := by
  simp only [execOp, ho, resolve, hf, Sem.run_bind, hv, Deferred.ofValue, Sem.run_pure, Result.andThen_ok, invoke, Array.empty_append]
  exact he _ w

theorem fn_inv {m : Nm} {c : Addr → Value → Prop} {g : FuncId} {cap : List AV} {v : Value} (h : VRep m c (.fn g cap) v) :
    ∃ vs, v = .func (.func g) #[] vs ∧ vs.size = cap.length ∧ ∀ (j : Nat) (y : AV) (u : Value), cap[j]? = some y → vs[j]? = some u → VRep m c y u := by
  cases h with | fn hl hr => exact ⟨_, rfl, hl, hr⟩

theorem cfOp_sound {o : Oper} {k : St → Prop} {K : Act → World → Prop} {Q : Exit → Act → World → Prop} (h : SimF E st m a w) (hc : cfOp P o k st)
    (hk : ∀ st' m' a' w', k st' → SimF E st' m' a' w' → K a' w') : o.wp P a w K Q := by
  have val : ∀ {s : Bool} {r : AV}, aVal P st o.op = some (s, r) → s = true → k (st.put o.dst r) → o.wp P a w K Q := by
    intro s r h1 h2 h3
    have hst : ({ st with grd := none } : St) = st := by rw [← h.grd]
    exact aVal_wp h (g := none) (fun _ e => by cases e) (by rw [hst]; exact h1) h2 (fun v hv => hk _ _ _ _ h3 (h.put o.dst hv))
  have eff : effK (aEff P st o) k → o.wp P a w K Q := by
    intro he
    unfold effK at he
    split at he
    · rename_i s st' hd
      exact aEff_sound h hd he.1 fun m' a' w' hs => hk _ _ _ _ he.2 hs
    · cases he
  have effM : effK (aMp P st o) k → o.wp P a w K Q := by
    intro he
    unfold effK at he
    split at he
    · rename_i s st' hd
      exact aMp_sound h hd he.1 fun m' a' w' hs => hk _ _ _ _ he.2 hs
    · cases he
  unfold cfOp at hc
  split at hc
  · split at hc
    · rename_i hd; exact aDo_sound h hd fun m' a' w' hs => hk _ _ _ _ hc hs
    · cases hc
  · split at hc
    · rename_i hd; exact aDo_sound h hd fun m' a' w' hs => hk _ _ _ _ hc hs
    · cases hc
  · split at hc
    · rename_i hd; exact aDo_sound h hd fun m' a' w' hs => hk _ _ _ _ hc hs
    · exact eff hc
  · exact eff hc
  · exact eff hc
  · exact effM hc
  · exact effM hc
  · exact effM hc
  · rename_i x ho
    exact hc.sound ho h hk
  · rename_i t x hh ho
    rcases hc with hc | hc
    · split at hc
      · rename_i hv; exact val (by rw [ho]; exact hv) hc.1 hc.2
      · cases hc
    · exact effM hc
  · rename_i c ho
    split at hc
    · rename_i f hf
      split at hc
      · rename_i g cap hfe
        have hx := ev_rep h.get f
        rw [hfe] at hx
        obtain ⟨vs, hv, hl, hr⟩ := fn_inv hx
        have he := hc.enters
        obtain ⟨hsz, hvs⟩ := args_rep h.get c.args hl hr
        unfold Oper.wp
        rw [call_run ho hf hv he]
        refine (callX_sound h hc hsz hvs).mono ?_
        rintro e w' ⟨v, m', st', rfl, hk', hs⟩
        exact hk _ _ _ _ hk' hs
      · cases hc
    · split at hc
      · rename_i hd; exact aEff_sound h hd hc.1 fun m' a' w' hs => hk _ _ _ _ hc.2 hs
      · exact effM hc
    · exact effM hc
    · split at hc
      · rename_i hv; exact val hv hc.1 hc.2
      · cases hc
  · split at hc
    · rename_i hv; exact val hv hc.1 hc.2
    · cases hc

theorem cfG_sound {o : Oper} {c : Bool} {k : St → Prop} {K : Act → World → Prop} {Q : Exit → Act → World → Prop} (h : SimF E st m a w) (hcf : cfG P o c k st)
    (hk : ∀ st' m' a' w', k st' → SimF E st' m' a' w' → K a' w') : (c = true → o.wp P a w K Q) ∧ (c = false → K (a.put o.dst Go.undef) w) := by
  have val : ∀ {s : Bool} {r : AV}, aVal P { st with grd := some c } o.op = some (s, r) → (c = true → s = true) → k (st.put o.dst (.cond c r)) → (c = true → o.wp P a w K Q) ∧ (c = false → K (a.put o.dst Go.undef) w) := by
    intro s r h1 h2 h3
    refine ⟨fun hc => ?_, fun hc => ?_⟩
    · exact aVal_wp h (g := some c) (fun _ e => by cases e; exact hc) h1 (h2 hc) (fun v hv => hk _ _ _ _ h3 (h.put o.dst (.cond (fun _ => hv) (fun h0 => by rw [hc] at h0; cases h0))))
    · exact hk _ _ _ _ h3 (h.put o.dst (.cond (fun h0 => by rw [hc] at h0; cases h0) (fun _ => rfl)))
  have off : c = false ∧ k (st.put o.dst (.cond c .undef)) → (c = true → o.wp P a w K Q) ∧ (c = false → K (a.put o.dst Go.undef) w) := by
    rintro ⟨h1, h2⟩
    exact ⟨fun hc => (by rw [h1] at hc; cases hc), fun hc => hk _ _ _ _ h2 (h.put o.dst (.cond (fun h0 => by rw [hc] at h0; cases h0) (fun _ => rfl)))⟩
  have eff : (c = true → match aDo P st o with | some st' => k st' | none => False) ∧ (c = false → k (st.put o.dst .undef)) → (c = true → o.wp P a w K Q) ∧ (c = false → K (a.put o.dst Go.undef) w) := by
    rintro ⟨h1, h2⟩
    refine ⟨fun hc => ?_, fun hc => hk _ _ _ _ (h2 hc) (h.put o.dst .undef)⟩
    have h1 := h1 hc
    split at h1
    · rename_i hd; exact aDo_sound h hd fun m' a' w' hs => hk _ _ _ _ h1 hs
    · cases h1
  unfold cfG at hcf
  split at hcf
  · exact eff hcf
  · exact eff hcf
  · exact eff hcf
  · rename_i cl ho
    split at hcf
    · rename_i f hf
      split at hcf
      · rename_i g cap hfe
        rcases hcf with ⟨fl, args', v, hspec, hpure, hK⟩ | ⟨rfl, hcx⟩
        rotate_left
        · refine ⟨fun _ => ?_, fun hc => (by cases hc)⟩
          have hget := get_rep (st := { st with grd := some true }) (fun _ e => by cases e; rfl) h.fr
          have hx := ev_rep hget f
          rw [hfe] at hx
          obtain ⟨vs, hv, hl, hr⟩ := fn_inv hx
          obtain ⟨hsz, hvs⟩ := args_rep (Y := E.Y) (st := { st with grd := some true }) hget cl.args hl hr
          unfold Oper.wp
          rw [call_run ho hf hv hcx.enters]
          refine (callX_sound h hcx hsz hvs).mono ?_
          rintro e w' ⟨v, m', st', rfl, hK, hs⟩
          exact hk _ _ _ _ hK hs
        refine ⟨fun hc => ?_, fun hc => hk _ _ _ _ hK (h.put o.dst (.cond (fun h0 => by rw [hc] at h0; cases h0) (fun _ => rfl)))⟩
        obtain ⟨hspec, hargs⟩ := hspec hc
        have hget := get_rep (st := { st with grd := some c }) (fun _ e => by cases e; exact hc) h.fr
        have hx := ev_rep hget f
        rw [hfe] at hx
        obtain ⟨vs, hv, hl, hr⟩ := fn_inv hx
        obtain ⟨hsz, hvs⟩ := args_rep (Y := E.Y) (st := { st with grd := some c }) hget cl.args hl hr
        unfold Oper.wp
        rw [call_run ho hf hv hspec.1]
        refine (h.call hspec hpure hargs hsz hvs).mono ?_
        rintro e w' ⟨v', m', rfl, hr', hO, hb, hdw, hnew⟩
        have := hr'.sc_inv
        subst this
        exact hk _ _ _ _ hK ((h.grow hb).put o.dst (.cond (fun _ => .im .sc) (fun h0 => by rw [hc] at h0; cases h0)))
      · cases hcf
    · split at hcf
      · rename_i hv; exact val hv hcf.1 hcf.2
      · exact off hcf
  · split at hcf
    · rename_i hv; exact val hv hcf.1 hcf.2
    · rcases hcf with hcf | ⟨rfl, hcf⟩
      · exact off hcf
      · exact ⟨fun _ => cfOp_sound (Q := Q) h hcf hk, fun hc => by cases hc⟩

theorem getD_some {tmps : Array Value} {g : Nat} {v : Value} (h : tmps.getD g Go.undef = v) (hne : v ≠ Go.undef) : tmps[g]? = some v := by
  rw [Array.getD_eq_getD_getElem?] at h
  cases hx : tmps[g]? with
  | none => rw [hx] at h; exact absurd h.symm hne
  | some u => rw [hx] at h; simp at h; rw [h]

theorem wanted_guard {ops : Array Oper} {o : Oper} {j g : Nat} {want c : Bool} (h : SimF E st m a w) (hgd : o.guard = some (j, want)) (hg : (ops.toList[j]?).bind (·.dst) = some g) (hgo : guardOf (st.raw g) want = some c) :
    Region.wanted o (yielded ops a.tmps) = c := by
  have hraw := raw_rep h.fr g
  have hgt : (ops[j]?).bind (·.dst) = some g := by simpa using hg
  simp only [Region.wanted, hgd, yielded, hgt, Option.bind_some]
  unfold guardOf at hgo
  split at hgo
  · rename_i b hb
    cases hgo
    rw [hb] at hraw
    rw [getD_some hraw.sc_inv (by simp [Go.undef])]
    cases b <;> cases want <;> rfl
  · rename_i c0 b hb
    cases hgo
    rw [hb] at hraw
    generalize hvv : a.tmps.getD g Go.undef = vv at hraw
    cases hraw with | cond ht hf =>
    cases c0
    · have := hf rfl
      subst this
      cases hx : a.tmps[g]? with
      | none => simp
      | some u =>
        rw [Array.getD_eq_getD_getElem?, hx] at hvv
        simp at hvv
        subst hvv
        simp [Go.undef]
    · have := (ht rfl).sc_inv
      subst this
      rw [getD_some hvv (by simp [Go.undef])]
      cases b <;> cases want <;> rfl
  · cases hgo

theorem cfOps_sound {ops : Array Oper} {k : St → Prop} {Q : Exit → Act → World → Prop} (hk : ∀ st' m' a' w', k st' → SimF E st' m' a' w' → Q .normal a' w') :
    ∀ (l : List Oper) (st : St) (m : Nm) (a : Act) (w : World), SimF E st m a w → cfOps P ops.toList l k st → wpList P ops Q l a w
  | [], st, m, a, w, h, hc => hk st m a w hc h
  | o :: rest, st, m, a, w, h, hc => by
    have ih := fun (st : St) (m : Nm) (a : Act) (w : World) (h : SimF E st m a w) (hc : cfOps P ops.toList rest k st) => cfOps_sound hk rest st m a w h hc
    simp only [cfOps] at hc
    unfold wpList
    split at hc
    · rename_i hgd
      rw [if_pos (by simp [Region.wanted, hgd])]
      exact .inl (cfOp_sound h hc fun st' m' a' w' hk' hs => ih st' m' a' w' hs hk')
    · rename_i j want hgd
      split at hc
      · cases hc
      · rename_i g hg
        split at hc
        · rename_i c hgo
          obtain ⟨h1, h2⟩ := cfG_sound (Q := Q) h hc fun st' m' a' w' hk' hs => ih st' m' a' w' hs hk'
          have hw := wanted_guard h hgd hg hgo
          rw [hw]
          cases c
          · exact h2 rfl
          · exact .inl (h1 rfl)
        · cases hc

end Go.Am

set_option linter.unusedVariables false
set_option linter.unusedSimpArgs false
namespace Go.Am
open Go.RowKit
variable {P : Program} {E : Env} {st : St} {m : Nm} {w : World} {a : Act}
attribute [local simp] AV.flat AV.flatL AV.pure AV.pureL AV.view1 AV.view AV.le AV.leL

mutual
theorem AV.flat_pure : ∀ a : AV, a.flat = true → a.pure = true
  | .im _, _ => rfl
  | .tup cs, h => AV.flatL_pure cs h
  | .agg cs, h => AV.flatL_pure cs h
  | .eptr _, h => by cases h
  | .rptr _ _ _ _, h => by cases h
  | .ptr _ _, h => by cases h
  | .row _, h => by cases h
  | .fn _ _, h => by cases h
  | .map _, h => by cases h
  | .yld _, h => by cases h
  | .sub _ _ _ _, h => by cases h
  | .cond _ _, h => by cases h
  | .undef, h => by cases h
theorem AV.flatL_pure : ∀ l : List AV, AV.flatL l = true → AV.pureL l = true
  | [], _ => rfl
  | a :: l, h => by
    simp only [AV.flatL, Bool.and_eq_true] at h
    simp only [AV.pureL, AV.flat_pure a h.1, AV.flatL_pure l h.2, Bool.and_self]
end
mutual
theorem AV.le_refl : ∀ a : AV, a.le a
  | .im x => ⟨x, rfl, .inl rfl⟩
  | .tup cs => ⟨cs, rfl, AV.leL_refl cs⟩
  | .agg cs => ⟨cs, rfl, AV.leL_refl cs⟩
  | .eptr _ => rfl
  | .rptr _ _ _ _ => rfl
  | .ptr _ _ => rfl
  | .row _ => rfl
  | .fn _ _ => rfl
  | .map _ => rfl
  | .yld _ => rfl
  | .sub _ _ _ _ => rfl
  | .cond _ _ => rfl
  | .undef => trivial
theorem AV.leL_refl : ∀ l : List AV, AV.leL l l
  | [] => rfl
  | a :: l => ⟨a, l, rfl, AV.le_refl a, AV.leL_refl l⟩
end
theorem view1_pure (st : St) (a : AV) (h : a.pure = true) : a.view1 st = a := by cases a <;> first | rfl | cases h
theorem map_view1_pure (st : St) : ∀ l : List AV, AV.pureL l = true → l.map (AV.view1 st) = l
  | [], _ => rfl
  | a :: l, h => by
    simp only [AV.pureL, Bool.and_eq_true] at h
    simp only [List.map_cons, view1_pure st a h.1, map_view1_pure st l h.2]
theorem view_pure (st : St) (a : AV) (h : a.pure = true) : a.view st = a := by
  cases a with
  | agg cs => simp only [AV.view]; rw [map_view1_pure st cs h]
  | tup cs =>
    simp only [AV.view]
    congr 1
    have : ∀ l : List AV, AV.pureL l = true → l.map (fun a => match a with | .agg ds => .agg (ds.map (AV.view1 st)) | a => a.view1 st) = l := by
      intro l
      induction l with
      | nil => intro _; rfl
      | cons a l ih =>
        intro h
        simp only [AV.pureL, Bool.and_eq_true] at h
        rw [List.map_cons, ih h.2]
        congr 1
        cases a with
        | agg ds => simp only [map_view1_pure st ds h.1]
        | _ => exact view1_pure st _ h.1
    exact this cs h
  | _ => exact view1_pure st _ h
theorem map_view_pure (st : St) : ∀ l : List AV, AV.pureL l = true → l.map (AV.view st) = l
  | [], _ => rfl
  | a :: l, h => by
    simp only [AV.pureL, Bool.and_eq_true] at h
    simp only [List.map_cons, view_pure st a h.1, map_view_pure st l h.2]


/-- What is weakened to a value that never changes. -/
theorem le_view1 (st : St) {x y : AV} (h : x.le y) (hp : y.pure = true) : (x.view1 st).le y := by
  cases y with
  | undef => trivial
  | im z => obtain ⟨z', rfl, h⟩ := h; exact ⟨z', rfl, h⟩
  | eptr cs => simp only [AV.le] at h; subst h; rfl
  | agg ds => obtain ⟨cs, rfl, h⟩ := h; exact ⟨cs, rfl, h⟩
  | tup ds => obtain ⟨cs, rfl, h⟩ := h; exact ⟨cs, rfl, h⟩
  | fn f cs => simp only [AV.le] at h; subst h; rfl
  | cond b d => simp only [AV.le] at h; subst h; rfl
  | rptr _ _ _ _ => cases hp
  | ptr _ _ => cases hp
  | row _ => cases hp
  | map _ => cases hp
  | yld _ => cases hp
  | sub _ _ _ _ => cases hp
theorem le_views (st : St) : ∀ (ds cs : List AV), AV.leL cs ds → AV.pureL ds = true → AV.leL (cs.map (AV.view1 st)) ds
  | [], cs, h, hp => by simp only [AV.leL] at h; subst h; rfl
  | d :: ds, cs, h, hp => by
    simp only [AV.leL] at h
    obtain ⟨c, cs', rfl, h1, h2⟩ := h
    simp only [AV.pureL, Bool.and_eq_true] at hp
    exact ⟨_, _, rfl, le_view1 st h1 hp.1, le_views st ds cs' h2 hp.2⟩
theorem le_viewt (st : St) : ∀ (ds cs : List AV), AV.leL cs ds → AV.pureL ds = true → AV.leL (cs.map fun a => match a with | .agg ds => .agg (ds.map (AV.view1 st)) | a => a.view1 st) ds
  | [], cs, h, hp => by simp only [AV.leL] at h; subst h; rfl
  | d :: ds, cs, h, hp => by
    simp only [AV.leL] at h
    obtain ⟨c, cs', rfl, h1, h2⟩ := h
    simp only [AV.pureL, Bool.and_eq_true] at hp
    refine ⟨_, _, rfl, ?_, le_viewt st ds cs' h2 hp.2⟩
    cases d with
    | undef => trivial
    | agg es =>
      simp only [AV.le] at h1
      obtain ⟨fs, rfl, h1⟩ := h1
      exact ⟨_, rfl, le_views st es fs h1 hp.1⟩
    | _ =>
      have := le_view1 st h1 hp.1
      cases c with
      | agg fs => exfalso; simp [AV.le] at h1
      | _ => exact this
theorem le_view (st : St) {x y : AV} (h : x.le y) (hp : y.pure = true) : (x.view st).le y := by
  cases y with
  | undef => trivial
  | agg ds =>
    simp only [AV.le] at h
    obtain ⟨cs, rfl, h⟩ := h
    exact ⟨_, rfl, le_views st ds cs h hp⟩
  | tup ds =>
    simp only [AV.le] at h
    obtain ⟨cs, rfl, h⟩ := h
    exact ⟨_, rfl, le_viewt st ds cs h hp⟩
  | _ =>
    have := le_view1 st h hp
    cases x with
    | agg fs => exfalso; simp [AV.le] at h
    | tup fs => exfalso; simp [AV.le] at h
    | _ => exact this
theorem leL_view (st : St) : ∀ (ds cs : List AV), AV.leL cs ds → AV.pureL ds = true → AV.leL (cs.map (AV.view st)) ds
  | [], cs, h, hp => by simp only [AV.leL] at h; subst h; rfl
  | d :: ds, cs, h, hp => by
    simp only [AV.leL] at h
    obtain ⟨c, cs', rfl, h1, h2⟩ := h
    simp only [AV.pureL, Bool.and_eq_true] at hp
    exact ⟨_, _, rfl, le_view st h1 hp.1, leL_view st ds cs' h2 hp.2⟩
end Go.Am

set_option linter.unusedVariables false
set_option linter.unusedSimpArgs false
namespace Go.Am
open Go.RowKit
variable {P : Program} {E : Env} {st : St} {m : Nm} {w : World} {a : Act}

/-! ### 21. A region whose order is open -/
abbrev Res := AV × Option AObj

def after1 (o : Oper) : List Nat := (o.after.toList.filter (Region.binds .any ·)).map (·.on)

def frOf (ops : List Oper) (res : List Res) (is : List Nat) : List (Nat × AV) :=
  is.filterMap fun j => match ops[j]?, res[j]? with
    | some o, some (r, _) => o.dst.map fun d => (d, r)
    | _, _ => none
def obOf (res : List Res) (base : Nat) (is : List Nat) : List (Nat × AObj) :=
  is.filterMap fun j => match res[j]? with
    | some (_, some o) => some (base + j, o)
    | _ => none
/-- The state when just these operations have come up. -/
def stMin (ops : List Oper) (res : List Res) (st : St) (is : List Nat) : St :=
  { fr := frOf ops res is ++ st.fr, objs := obOf res st.next is ++ st.objs, next := st.next + ops.length, size := st.size, grd := none }

/-- One operation in a state gives r, and the object ob under the name nm. -/
def OpF (P : Program) (s : St) (o : Oper) (nm : Nat) (re : Res) : Prop :=
  match o.op with
  | .alloc t => match zcells P t with
    | some zs => zs.all Value.oneCell' = true ∧ re = (.ptr nm 0, some (.box t (zs.map fun v => .im (.sc v))))
    | none => False
  | .box t x => match (s.ev x).cells with
    | some cs => re = (.ptr nm 0, some (.box t cs))
    | none => False
  | .store _ _ _ => False
  | .call c => match c.callee with
    | .value f => match s.ev f with
      | .fn g cap => ∃ args', FSpec P g args' [] re.1 [] ∧ AV.pureL args' = true ∧ AV.leL (c.args.toList.map s.ev ++ cap) args' ∧ re.1.pure = true ∧ re.2 = none
      | _ => False
    | _ => match aVal P s o.op with
      | some (sd, r) => sd = true ∧ re = (r, none)
      | none => False
  | op => match aVal P s op with
    | some (sd, r) => sd = true ∧ re = (r, none)
    | none => False

def OpFG (P : Program) (s : St) (c : Bool) (o : Oper) (re : Res) : Prop :=
  match o.op with
  | .alloc _ | .box _ _ | .store _ _ _ => False
  | .call cl => match cl.callee with
    | .value f => match ({ s with grd := some c } : St).ev f with
      | .fn g cap => ∃ v args', re = (.cond c (.im (.sc v)), none) ∧ (c = true → FSpec P g args' [] (.im (.sc v)) [] ∧ AV.leL (cl.args.toList.map ({ s with grd := some c } : St).ev ++ cap) args') ∧ AV.pureL args' = true
      | _ => False
    | _ => match aVal P { s with grd := some c } o.op with
      | some (sd, r) => (c = true → sd = true) ∧ re = (.cond c r, none)
      | none => False
  | op => match aVal P { s with grd := some c } op with
    | some (sd, r) => (c = true → sd = true) ∧ re = (.cond c r, none)
    | none => False

def OpA (P : Program) (ops : List Oper) (s : St) (o : Oper) (nm : Nat) (re : Res) : Prop :=
  match o.guard with
  | none => OpF P s o nm re
  | some (j, want) => match (ops[j]?).bind (·.dst) with
    | none => False
    | some g => match guardOf (s.raw g) want with
      | some c => (c = false ∧ ∃ x, re = (.cond false x, none)) ∨ (c = true ∧ OpF P s o nm re) ∨ OpFG P s c o re
      | none => False

/-- The slots that an operation looks at. -/
def tmpsOf (ops : List Oper) (o : Oper) : List Tmp :=
  (o.op.operands.toList.filterMap fun | .tmp t => some t | _ => none) ++ (match o.guard with | some (j, _) => ((ops[j]?).bind (·.dst)).toList | none => [])

/-- What is asked of a region's shape: a closed test. -/
def shapeOk (ops : List Oper) (size : Nat) : Bool :=
  ops.zipIdx.all fun (o, i) =>
    (after1 o).all (· < i) &&
    (tmpsOf ops o).all (fun t => ops.zipIdx.all fun (o', j) => o'.dst != some t || (after1 o).contains j) &&
    ops.zipIdx.all (fun (o', j) => i == j || o.dst.isNone || o'.dst != o.dst) &&
    (match o.dst with | some d => decide (d < size) | none => true)

/-! #### values hang on the operands alone -/
theorem cellsAt_mono {s s' : St} (hob : ∀ n o, s.obj n = some o → s'.obj n = some o) {x : AV} {k : Nat} {cs : List AV} (h : s.cellsAt x k = some cs) : s'.cellsAt x k = some cs := by
  unfold St.cellsAt at *
  split at h
  · split at h
    · rename_i ho; rw [hob _ _ ho]; exact h
    · cases h
  · exact h
  · split at h
    · rename_i ho; rw [hob _ _ ho]; exact h
    · cases h
  · split at h
    · rename_i ho; rw [hob _ _ ho]; exact h
    · cases h
  · cases h

theorem fillA_mono {t : TypeId} {ev ev' : Operand → AV} : ∀ (l : List (Nat × Operand)) (cs : List AV), (∀ p ∈ l, ev' p.2 = ev p.2) → fillA P t ev' cs l = fillA P t ev cs l
  | [], cs, h => rfl
  | (i, x) :: l, cs, h => by
    have ih := fun cs => fillA_mono (t := t) (ev := ev) (ev' := ev') l cs fun p hp => h p (List.mem_cons_of_mem _ hp)
    have hx : ev' x = ev x := h (i, x) List.mem_cons_self
    simp only [fillA, hx, ih]

theorem aVal2_mono {s s' : St} {op : Op} {p : Bool × AV} (hev : ∀ x ∈ op.operands, s'.ev x = s.ev x) (h : aVal2 P s op = some p) : aVal2 P s' op = some p := by
  unfold aVal2 at h ⊢
  split at h
  · rename_i t parts
    have hfl := fun cs => fillA_mono (P := P) (t := t) (ev := s.ev) (ev' := s'.ev) parts.toList cs (fun q hq => hev q.2 (by simp only [Op.operands, List.mem_toArray, List.mem_map]; exact ⟨q, hq, rfl⟩))
    split at h
    · rename_i hz hq; rw [hfl]; exact h
    · cases h
  · rename_i f first cap
    have : cap.toList.map s'.ev = cap.toList.map s.ev := List.map_congr_left fun x hx => hev x (by simp only [Op.operands]; exact Array.mem_append_right _ (by simpa using hx))
    rw [this]
    exact h
  · rename_i t x lo hi
    have hx := hev x (by simp [Op.operands])
    have hlo : evO s' lo = evO s lo := by
      cases lo with
      | none => rfl
      | some y => exact hev y (by simp [Op.operands])
    have hhi : evO s' hi = evO s hi := by
      cases hi with
      | none => rfl
      | some y => exact hev y (by simp [Op.operands])
    simp only [hx, hlo, hhi]
    exact h
  · cases h

theorem mpVal_mono {s s' : St} (hob : ∀ n o, s.obj n = some o → s'.obj n = some o) {q : IntKind} {e : TypeId} {key : Int} {x : AV} {r : AV × Bool} (h : mpVal P s q e key x = some r) : mpVal P s' q e key x = some r := by
  unfold mpVal at h ⊢
  split at h
  · split at h
    · rename_i ho; rw [hob _ _ ho]; exact h
    · cases h
  · exact h
  · cases h

theorem aStr_mono {s s' : St} (hob : ∀ n o, s.obj n = some o → s'.obj n = some o) {e d : TypeId} {x : AV} {r : Bool × AV} (h : aStr P s e d x = some r) : aStr P s' e d x = some r := by
  have hr : ∀ q, rowAt s x = some q → rowAt s' x = some q := by
    intro q hq
    unfold rowAt at hq ⊢
    split at hq
    · exact hq
    · exact hq
    · split at hq
      · rename_i ho; rw [hob _ _ ho]; exact hq
      · rename_i ho; rw [hob _ _ ho]; exact hq
      · cases hq
    · split at hq
      · rename_i ho; rw [hob _ _ ho]; exact hq
      · cases hq
    · cases hq
  unfold aStr at h ⊢
  split at h
  · rename_i hc
    rw [if_pos hc]
    split at h
    · rename_i xs hx; rw [hr _ hx]; exact h
    · cases h
  · cases h

theorem aVal_mono {s s' : St} {op : Op} {p : Bool × AV} (hev : ∀ x ∈ op.operands, s'.ev x = s.ev x) (hevR : ∀ x ∈ op.operands, s'.evR x = s.evR x) (hob : ∀ n o, s.obj n = some o → s'.obj n = some o) (h : aVal P s op = some p) : aVal P s' op = some p := by
  unfold aVal at h ⊢
  split at h
  · rename_i x; simp only [hev x (by simp [Op.operands])]; exact h
  · rename_i x; simp only [hev x (by simp [Op.operands])]; exact h
  · rename_i t x
    simp only [hev x (by simp [Op.operands])]
    split at h
    · simp only [Option.map_eq_some_iff] at h ⊢
      obtain ⟨cs, hc, h⟩ := h
      exact ⟨cs, cellsAt_mono hob hc, h⟩
    · split at h
      · rename_i hc; rw [cellsAt_mono hob hc]; exact h
      · cases h
    · cases h
  · rename_i t x f; simp only [hev x (by simp [Op.operands])]; exact h
  · rename_i t x i
    simp only [hev x (by simp [Op.operands]), hev i (by simp [Op.operands])]
    split at h
    · split at h
      · exact h
      · split at h
        · rename_i ho; simp only [hob _ _ ho]; exact h
        · rename_i ho; simp only [hob _ _ ho]; exact h
        · cases h
      · cases h
    · exact h
    · exact h
  · rename_i x; simp only [hev x (by simp [Op.operands])]; exact h
  · rename_i t x; simp only [hev x (by simp [Op.operands])]; exact h
  · rename_i t x; simp only [hev x (by simp [Op.operands])]; exact h
  · rename_i op t x y ty; simp only [hev x (by simp [Op.operands]), hev y (by simp [Op.operands])]; exact h
  · rename_i sc d x
    simp only [hev x (by simp [Op.operands])]
    split at h
    · exact h
    · rename_i e hs1
      exact aStr_mono hob h
    · cases h
  · rename_i t i; simp only [hev t (by simp [Op.operands])]; exact h
  · rename_i c
    obtain ⟨cal, args, tys⟩ := c
    unfold aCall at h ⊢
    simp only at h ⊢
    split at h
    · rename_i x t hargs htys
      have hx := hev x (by simp only [Op.operands, Call.operands]; apply Array.mem_append_right; rw [← Array.mem_toList_iff, hargs]; simp)
      simp only [hx]
      split at h
      · exact h
      · exact h
      · exact h
      · split at h
        · rename_i ho; simp only [hob _ _ ho]; exact h
        · rename_i ho; simp only [hob _ _ ho]; exact h
        · cases h
      · exact h
      · split at h
        · rename_i hq ho; simp only [hob _ _ ho, hq]; exact h
        · cases h
      · cases h
    · rename_i x t hargs htys
      have hx := hev x (by simp only [Op.operands, Call.operands]; apply Array.mem_append_right; rw [← Array.mem_toList_iff, hargs]; simp)
      simp only [hx]
      exact h
    · rename_i x y hargs
      have hx := hev x (by simp only [Op.operands, Call.operands]; apply Array.mem_append_right; rw [← Array.mem_toList_iff, hargs]; simp)
      have hy := hev y (by simp only [Op.operands, Call.operands]; apply Array.mem_append_right; rw [← Array.mem_toList_iff, hargs]; simp)
      simp only [hx, hy]
      exact h
    · cases h
  · rename_i c x y; simp only [hev c (by simp [Op.operands]), hevR x (by simp [Op.operands]), hevR y (by simp [Op.operands])]; exact h
  · rename_i t x i; simp only [hev x (by simp [Op.operands]), hev i (by simp [Op.operands])]; exact h
  · rename_i t x i ok
    have hx := hev x (by simp [Op.operands])
    have hi := hev i (by simp [Op.operands])
    unfold aLook at h ⊢
    simp only [hx, hi]
    split at h
    · split at h
      · rename_i hqq
        rw [if_pos hqq]
        split at h
        · rename_i v b hv
          have : mpVal P s' _ _ _ (s.ev x) = some (v, b) := mpVal_mono hob hv
          simp only [this]
          exact h
        · cases h
      · cases h
    · cases h
  · rename_i x
    have hx := hev x (by simp [Op.operands])
    unfold aEnt at h ⊢
    simp only [hx]
    split at h
    · split at h
      · rename_i ho
        simp only [hob _ _ ho]
        split at h
        · rename_i hn hl
          simp only [hob _ _ hn, hl]
          exact h
        · cases h
      · cases h
    · cases h
  · rename_i t x lo hi
    have hx := hev x (by simp [Op.operands])
    have hlo : evO s' lo = evO s lo := by
      cases lo with
      | none => rfl
      | some y => exact hev y (by simp [Op.operands])
    have hhi : evO s' hi = evO s hi := by
      cases hi with
      | none => rfl
      | some y => exact hev y (by simp [Op.operands])
    simp only [hx]
    split at h
    · rename_i n hn
      simp only [aSub] at h ⊢
      split at h
      · rename_i ho
        simp only [hob _ _ ho, hlo, hhi]
        exact h
      · cases h
    · rename_i hn
      exact aVal2_mono (s' := s') hev h
  · exact aVal2_mono hev h


/-! #### look-ups -/
theorem look_app {α : Type} : ∀ (l l' : List (Nat × α)) (n : Nat), look (l ++ l') n = match look l n with | some x => some x | none => look l' n
  | [], l', n => rfl
  | (i, x) :: l, l', n => by
    simp only [List.cons_append, look]
    split
    · rfl
    · exact look_app l l' n
theorem look_none {α : Type} : ∀ (l : List (Nat × α)) (n : Nat), (∀ p ∈ l, p.1 ≠ n) → look l n = none
  | [], _, _ => rfl
  | (i, x) :: l, n, h => by
    simp only [look]
    rw [if_neg (h _ List.mem_cons_self)]
    exact look_none l n fun p hp => h p (List.mem_cons_of_mem _ hp)
theorem look_some {α : Type} : ∀ (l : List (Nat × α)) (n : Nat) (x : α), (n, x) ∈ l → (∀ p ∈ l, p.1 = n → p.2 = x) → look l n = some x
  | (i, y) :: l, n, x, hm, hu => by
    simp only [look]
    split
    · rename_i e; exact congrArg some (hu _ List.mem_cons_self e)
    · rename_i e
      rcases List.mem_cons.1 hm with h | h
      · cases h; exact absurd rfl e
      · exact look_some l n x h fun p hp => hu p (List.mem_cons_of_mem _ hp)

section
variable {ops : List Oper} {res : List Res}
theorem mem_frOf {is : List Nat} {p : Nat × AV} : p ∈ frOf ops res is ↔ ∃ j o r ob, j ∈ is ∧ ops[j]? = some o ∧ res[j]? = some (r, ob) ∧ o.dst = some p.1 ∧ p.2 = r := by
  unfold frOf
  rw [List.mem_filterMap]
  constructor
  · rintro ⟨j, hj, h⟩
    split at h
    · rename_i o r ob ho hr
      simp only [Option.map_eq_some_iff] at h
      obtain ⟨d, hd, rfl⟩ := h
      exact ⟨j, o, r, ob, hj, ho, hr, hd, rfl⟩
    · cases h
  · rintro ⟨j, o, r, ob, hj, ho, hr, hd, he⟩
    refine ⟨j, hj, ?_⟩
    simp only [ho, hr, hd, Option.map_some, ← he]
theorem mem_obOf {is : List Nat} {base : Nat} {p : Nat × AObj} : p ∈ obOf res base is ↔ ∃ j r, j ∈ is ∧ res[j]? = some (r, some p.2) ∧ p.1 = base + j := by
  unfold obOf
  rw [List.mem_filterMap]
  constructor
  · rintro ⟨j, hj, h⟩
    split at h
    · rename_i r o hr
      cases h
      exact ⟨j, r, hj, hr, rfl⟩
    · cases h
  · rintro ⟨j, r, hj, hr, he⟩
    refine ⟨j, hj, ?_⟩
    simp only [hr, ← he]

def Dist (ops : List Oper) : Prop := ∀ (i j : Nat) (o o' : Oper) (d : Tmp), ops[i]? = some o → ops[j]? = some o' → o.dst = some d → o'.dst = some d → i = j

theorem fr_in (hd : Dist ops) {is : List Nat} {F : List (Nat × AV)} {j : Nat} {o : Oper} {r : AV} {ob : Option AObj} {t : Tmp} (hj : j ∈ is) (ho : ops[j]? = some o) (hr : res[j]? = some (r, ob)) (ht : o.dst = some t) :
    look (frOf ops res is ++ F) t = some r := by
  rw [look_app, look_some (frOf ops res is) t r (mem_frOf.2 ⟨j, o, r, ob, hj, ho, hr, ht, rfl⟩)]
  intro p hp he
  obtain ⟨j', o', r', ob', hj', ho', hr', hd', he'⟩ := mem_frOf.1 hp
  have := hd j' j o' o t ho' ho (by rw [hd', he]) ht
  subst this
  rw [hr] at hr'; cases hr'
  exact he'
theorem fr_out {is : List Nat} {F : List (Nat × AV)} {t : Tmp} (h : ∀ j o, j ∈ is → ops[j]? = some o → o.dst ≠ some t) : look (frOf ops res is ++ F) t = look F t := by
  rw [look_app, look_none]
  intro p hp he
  obtain ⟨j', o', r', ob', hj', ho', hr', hd', he'⟩ := mem_frOf.1 hp
  exact h j' o' hj' ho' (by rw [hd', he])
theorem ob_in {is : List Nat} {base : Nat} {O : List (Nat × AObj)} {j : Nat} {r : AV} {o : AObj} (hj : j ∈ is) (hr : res[j]? = some (r, some o)) : look (obOf res base is ++ O) (base + j) = some o := by
  rw [look_app, look_some (obOf res base is) (base + j) o (mem_obOf.2 ⟨j, r, hj, hr, rfl⟩)]
  intro p hp he
  obtain ⟨j', r', hj', hr', he'⟩ := mem_obOf.1 hp
  have : j' = j := by omega
  subst this
  rw [hr] at hr'; cases hr'; rfl
theorem ob_out {is : List Nat} {base : Nat} {O : List (Nat × AObj)} {n : Nat} (h : ∀ j r o, j ∈ is → res[j]? = some (r, some o) → n ≠ base + j) : look (obOf res base is ++ O) n = look O n := by
  rw [look_app, look_none]
  intro p hp he
  obtain ⟨j', r', hj', hr', he'⟩ := mem_obOf.1 hp
  exact h j' r' p.2 hj' hr' (by rw [← he, he'])

/-- What an operation's fact asks of the state, a greater state has too. -/
theorem OpA_mono {s s' : St} {o : Oper} {nm : Nat} {re : Res} (hg : s.grd = none) (hg' : s'.grd = none) (hraw : ∀ t ∈ tmpsOf ops o, s'.raw t = s.raw t) (hob : ∀ n x, s.obj n = some x → s'.obj n = some x)
    (h : OpA P ops s o nm re) : OpA P ops s' o nm re := by
  have hop : ∀ x ∈ o.op.operands, ∀ c, ({ s' with grd := c } : St).ev x = ({ s with grd := c } : St).ev x := by
    intro x hx c
    cases x with
    | tmp t =>
      have : s'.raw t = s.raw t := hraw t (by unfold tmpsOf; apply List.mem_append_left; rw [List.mem_filterMap]; exact ⟨.tmp t, by simpa using hx, rfl⟩)
      show St.get _ t = St.get _ t
      unfold St.get
      have h1 : ({ s' with grd := c } : St).raw t = s'.raw t := rfl
      have h2 : ({ s with grd := c } : St).raw t = s.raw t := rfl
      rw [h1, h2, this]
    | const v => rfl
    | global g => rfl
    | func f => rfl
  have hs : ({ s with grd := none } : St) = s := by rw [← hg]
  have hs' : ({ s' with grd := none } : St) = s' := by rw [← hg']
  have hev : ∀ x ∈ o.op.operands, s'.ev x = s.ev x := fun x hx => by have := hop x hx none; rwa [hs, hs'] at this
  have hargs : ∀ (c : Call), o.op = .call c → (∀ f, c.callee = .value f → ∀ g, ({ s' with grd := g } : St).ev f = ({ s with grd := g } : St).ev f) ∧ ∀ g, c.args.toList.map ({ s' with grd := g } : St).ev = c.args.toList.map ({ s with grd := g } : St).ev := by
    intro c hc
    refine ⟨fun f hf g => hop f (by rw [hc]; simp [Op.operands, Call.operands, hf]) g, fun g => List.map_congr_left fun x hx => hop x (by rw [hc]; simp only [Op.operands, Call.operands]; exact Array.mem_append_right _ (by simpa using hx)) g⟩
  have hF : OpF P s o nm re → OpF P s' o nm re := by
    intro h
    unfold OpF at *
    split at h
    · exact h
    · rename_i t x hop'
      rw [hev x (by rw [hop']; simp [Op.operands])]
      exact h
    · exact h
    · rename_i c hc
      obtain ⟨h1, h2⟩ := hargs c hc
      split at h
      · rename_i f hf
        have := h1 f hf none
        rw [hs, hs'] at this
        have h2' := h2 none
        rw [hs, hs'] at h2'
        rw [this, h2']
        exact h
      · split at h
        · rename_i hv; rw [aVal_mono (fun x hx => hev x hx) (fun x hx => hop x hx none) hob hv]; exact h
        · exact h.elim
    · split at h
      · rename_i hv; rw [aVal_mono (fun x hx => hev x hx) (fun x hx => hop x hx none) hob hv]; exact h
      · exact h.elim
  unfold OpA at *
  split at h
  · exact hF h
  · rename_i j want hgd
    split at h
    · exact h
    · rename_i g hgs
      have : s'.raw g = s.raw g := hraw g (by unfold tmpsOf; apply List.mem_append_right; rw [hgd]; simp only [hgs]; exact List.mem_singleton.2 rfl)
      rw [this]
      split at h
      · rename_i c hc
        refine h.imp id (Or.imp (fun h => ⟨h.1, hF h.2⟩) ?_)
        intro h
        unfold OpFG at *
        split at h
        · exact h
        · exact h
        · exact h
        · rename_i cl hcl
          obtain ⟨h1, h2⟩ := hargs cl hcl
          split at h
          · rename_i f hf
            rw [h1 f hf (some c), h2 (some c)]
            exact h
          · split at h
            · rename_i hv; rw [aVal_mono (s := { s with grd := some c }) (s' := { s' with grd := some c }) (fun x hx => hop x hx (some c)) (fun x hx => hop x hx none) hob hv]; exact h
            · exact h.elim
        · split at h
          · rename_i hv; rw [aVal_mono (s := { s with grd := some c }) (s' := { s' with grd := some c }) (fun x hx => hop x hx (some c)) (fun x hx => hop x hx none) hob hv]; exact h
          · exact h.elim
      · exact h
end
end Go.Am

set_option linter.unusedVariables false
set_option linter.unusedSimpArgs false
namespace Go.Am
open Go.RowKit
variable {P : Program} {E : Env} {st : St} {m : Nm} {w : World} {a : Act}

def St.withRes (s : St) (dst : Option Tmp) (nm : Nat) (re : Res) : St :=
  (match re.2 with | some ob => s.newAt nm s.next ob | none => s).put dst re.1

theorem SimF.boxAt (h : SimF E st m a w) {nm : Nat} (hf : m nm = none) (hlt : nm < st.next) (t : TypeId) {cs : List AV} {arr : Array Value} (hsz : arr.size = cs.length) (hone : ∀ u, u ∈ arr → u.oneCell' = true)
    (hr : ∀ (j : Nat) (y : AV) (u : Value), cs[j]? = some y → arr[j]? = some u → VRep m (seen w (st.X m E.Y)) y u) (d : Option Nat) :
    SimF E (st.withRes d nm (.ptr nm 0, some (.box t cs))) (fun n => if n = nm then some (.blk w.heap.size) else m n) (a.put d (.pointer (some ⟨w.heap.size, 0, none⟩))) (w.alloc (.cells arr t)) := by
  obtain ⟨h1, h2⟩ := h.newAt hf (Nat.le_refl _) hlt (below_alloc1 w (.cells arr t)) (.box t cs) (.blk w.heap.size) (fun b hb _ => by cases hb; exact Nat.le_refl _)
    (fun m' c' hm hc => ⟨w.heap.size, arr, rfl, heap_alloc_new w _, hsz, hone, fun j y u g1 g2 => (hr j y u g1 g2).mono hm hc⟩)
  exact h1.put d (.ptr (by simp))

/-- One operation that asks no guard. -/
theorem OpF_exec {o : Oper} {nm : Nat} {re : Res} {K : Act → World → Prop} {Q : Exit → Act → World → Prop} (h : SimF E st m a w) (hop : OpF P st o nm re) (hnm : m nm = none) (hlt : nm < st.next)
    (hk : ∀ m' a' w', SimF E (st.withRes o.dst nm re) m' a' w' → (∀ n, (n ≠ nm ∨ re.2 = none) → m' n = m n) → K a' w') : o.wp P a w K Q := by
  have hst : ({ st with grd := none } : St) = st := by rw [← h.grd]
  obtain ⟨dst, op, ty, pos, after, guard⟩ := o
  have val : ∀ {s : Bool} {r : AV}, aVal P st op = some (s, r) → s = true → re = (r, none) → Oper.wp P ⟨dst, op, ty, pos, after, guard⟩ a w K Q := by
    intro s r h1 h2 h3
    subst h3
    exact aVal_wp h (g := none) (fun _ e => by cases e) (by rw [hst]; exact h1) h2 (fun v hv => hk _ _ _ (h.put dst hv) fun _ _ => rfl)
  unfold OpF at hop
  split at hop
  · rename_i t ho
    simp only at ho
    subst ho
    split at hop
    · rename_i zs hz
      obtain ⟨hall, rfl⟩ := hop
      simp only [zcells, Option.map_eq_some_iff, Option.bind_eq_some_iff] at hz
      obtain ⟨z, ⟨i, hi, hz⟩, rfl⟩ := hz
      have hs := h.boxAt hnm hlt t (cs := z.cells.toList.map fun v => .im (.sc v)) (arr := z.cells) (by simp) (fun u hu => List.all_eq_true.1 hall u (by simpa using hu)) (fun j y u h1 h2 => by
        simp at h1
        obtain ⟨x, hx, rfl⟩ := h1
        rw [hx] at h2; cases h2
        exact .im .sc) dst
      refine wp_of_value (v := .pointer (some ⟨w.heap.size, 0, none⟩)) (w' := w.alloc (.cells z.cells t)) ?_ (hk _ _ _ hs fun n hn => hn.elim (fun hn => by simp [hn]) (fun hn => by cases hn))
      simp [execOp, Instr.alloc, zeroValue, typeInfo, hi, hz, newVar, newRow]
    · cases hop
  · rename_i t x ho
    simp only at ho
    subst ho
    split at hop
    · rename_i cs hc
      subst hop
      obtain ⟨g1, g2, g3⟩ := cells_rep (ev_rep h.get x) hc
      have hs := h.boxAt hnm hlt t g1 g2 g3 dst
      refine wp_of_value (v := .pointer (some ⟨w.heap.size, 0, none⟩)) (w' := w.alloc (.cells (a.eval x).cells t)) ?_ (hk _ _ _ hs fun n hn => hn.elim (fun hn => by simp [hn]) (fun hn => by cases hn))
      simp [execOp, Instr.box, newVar, newRow]
    · cases hop
  · cases hop
  · rename_i c ho
    simp only at ho
    subst ho
    split at hop
    · rename_i f hf
      split at hop
      · rename_i g cap hfe
        obtain ⟨args', hspec, hpure, hle, hpr, hre⟩ := hop
        have hx := ev_rep h.get f
        rw [hfe] at hx
        obtain ⟨vs, hv, hl, hr⟩ := fn_inv hx
        obtain ⟨hsz, hvs⟩ := args_rep h.get c.args hl hr
        unfold Oper.wp
        rw [call_run rfl hf hv hspec.1]
        refine (h.call (fl := []) hspec hpure (leL_view _ _ _ hle hpure) hsz hvs).mono ?_
        rintro e w' ⟨v, m', rfl, hr', hO, hb, hdw, hnew⟩
        have hs := (h.grow hb)
        have hv' : VRep m (seen w' (st.X m E.Y)) re.1 v := by
          refine VRep.of_ren (m := m') (ρ := fun _ => 0) (fun n l hn => ?_) ?_ (AV.pure_ren _ _ hpr).symm
          · have := hO.fresh 0 (Nat.le_refl _)
            rw [this] at hn; cases hn
          · exact hr'.mono (fun _ _ h => h) (seen_mono (fun _ _ _ => rfl) fun b _ hx => .inr hx)
        refine hk m _ _ ?_ fun _ _ => rfl
        obtain ⟨r1, r2⟩ := re
        simp only at hre hv'
        subst hre
        exact hs.put dst hv'
      · cases hop
    · split at hop
      · rename_i hv; exact val hv hop.1 hop.2
      · cases hop
  · split at hop
    · rename_i hv; exact val hv hop.1 hop.2
    · cases hop

/-- One operation of such a region comes up. -/
theorem OpA_exec {ops : Array Oper} {o : Oper} {nm : Nat} {re : Res} {K : Act → World → Prop} {Q : Exit → Act → World → Prop} (h : SimF E st m a w) (hop : OpA P ops.toList st o nm re) (hnm : m nm = none) (hlt : nm < st.next)
    (hk : ∀ m' a' w', SimF E (st.withRes o.dst nm re) m' a' w' → (∀ n, (n ≠ nm ∨ re.2 = none) → m' n = m n) → K a' w') :
    if Region.wanted o (yielded ops a.tmps) then o.wp P a w K Q ∨ (o.asks P a w ∧ LetsOut Q) else K (a.put o.dst Go.undef) w := by
  unfold OpA at hop
  split at hop
  · rename_i hgd
    rw [if_pos (by simp [Region.wanted, hgd])]
    exact .inl (OpF_exec h hop hnm hlt hk)
  · rename_i j want hgd
    split at hop
    · cases hop
    · rename_i g hg
      split at hop
      · rename_i c hgo
        rw [wanted_guard h hgd hg hgo]
        rcases hop with ⟨rfl, x, rfl⟩ | ⟨rfl, hop⟩ | hop
        · exact hk m _ _ (h.put o.dst (.cond (fun e => by cases e) (fun _ => rfl))) fun _ _ => rfl
        · exact .inl (OpF_exec h hop hnm hlt hk)
        have val : ∀ {s : Bool} {r : AV}, aVal P { st with grd := some c } o.op = some (s, r) → (c = true → s = true) → re = (.cond c r, none) → if c = true then o.wp P a w K Q ∨ (o.asks P a w ∧ LetsOut Q) else K (a.put o.dst Go.undef) w := by
          intro s r h1 h2 h3
          subst h3
          cases c
          · exact hk m _ _ (h.put o.dst (.cond (fun e => by cases e) (fun _ => rfl))) fun _ _ => rfl
          · exact .inl (aVal_wp h (g := some true) (fun _ e => by cases e; rfl) h1 (h2 rfl) (fun v hv => hk m _ _ (h.put o.dst (.cond (fun _ => hv) (fun e => by cases e))) fun _ _ => rfl))
        unfold OpFG at hop
        split at hop
        · cases hop
        · cases hop
        · cases hop
        · rename_i cl ho
          split at hop
          · rename_i f hf
            split at hop
            · rename_i gg cap hfe
              obtain ⟨v, args', rfl, hspec, hpure⟩ := hop
              cases c
              · exact hk m _ _ (h.put o.dst (.cond (fun e => by cases e) (fun _ => rfl))) fun _ _ => rfl
              · left
                obtain ⟨hspec, hle⟩ := hspec rfl
                have hget := get_rep (st := { st with grd := some true }) (fun _ e => by cases e; rfl) h.fr
                have hx := ev_rep hget f
                rw [hfe] at hx
                obtain ⟨vs, hv, hl, hr⟩ := fn_inv hx
                obtain ⟨hsz, hvs⟩ := args_rep (Y := E.Y) (st := { st with grd := some true }) hget cl.args hl hr
                unfold Oper.wp
                rw [call_run ho hf hv hspec.1]
                refine (h.call (fl := []) hspec hpure (leL_view _ _ _ hle hpure) hsz hvs).mono ?_
                rintro e w' ⟨v', m', rfl, hr', hO, hb, hdw, hnew⟩
                have := hr'.sc_inv
                subst this
                exact hk m _ _ ((h.grow hb).put o.dst (.cond (fun _ => .im .sc) (fun e => by cases e))) fun _ _ => rfl
            · cases hop
          · split at hop
            · rename_i hv; exact val hv hop.1 hop.2
            · cases hop
        · split at hop
          · rename_i hv; exact val hv hop.1 hop.2
          · cases hop
      · cases hop
end Go.Am

set_option linter.unusedVariables false
set_option linter.unusedSimpArgs false
namespace Go.Am
open Go.RowKit
variable {P : Program} {E : Env} {st : St} {m : Nm} {w : World} {a : Act}

/-! ### 22. A region whose order is open, part 2 -/
/-- What lies ahead of each operation. -/
def ancs : List (List Nat) → List Oper → List (List Nat)
  | acc, [] => acc
  | acc, o :: rest =>
    let a1 := after1 o
    ancs (acc ++ [(List.range acc.length).filter fun j => a1.contains j || a1.any fun k => (acc.getD k []).contains j]) rest

def shapeB (ops : List Oper) (A : List (List Nat)) (size nq : Nat) : Bool :=
  (ops.zipIdx.all fun (o, i) =>
    (after1 o).all (· < i) && ((A.getD i []).all fun j => j < i && ((after1 o).contains j || (after1 o).any fun k => (A.getD k []).contains j)) &&
    (decide (nq ≤ i) || ((tmpsOf ops o).all (fun t => ops.zipIdx.all fun (o', j) => o'.dst != some t || (A.getD i []).contains j || (A.getD j []).contains i) &&
      (match o.dst with
        | some d => decide (d < size) && ops.zipIdx.all fun (o', j) => i == j || o'.dst != some d
        | none => true)))) &&
  decide (nq ≤ ops.length) && (List.range ops.length).all fun i => decide (i < nq) || (List.range i).all fun j => (A.getD i []).contains j

structure Shape (ops : List Oper) (A : List (List Nat)) (size nq : Nat) : Prop where
  back : ∀ i o, ops[i]? = some o → ∀ j ∈ after1 o, j < i
  anc : ∀ i o, ops[i]? = some o → ∀ j ∈ A.getD i [], j < i ∧ (j ∈ after1 o ∨ ∃ k ∈ after1 o, j ∈ A.getD k [])
  tmps : ∀ i o, i < nq → ops[i]? = some o → ∀ t ∈ tmpsOf ops o, ∀ j o', ops[j]? = some o' → o'.dst = some t → j ∈ A.getD i [] ∨ i ∈ A.getD j []
  dist : ∀ i o, i < nq → ops[i]? = some o → ∀ d, o.dst = some d → ∀ j o', ops[j]? = some o' → o'.dst = some d → i = j
  size : ∀ i o d, i < nq → ops[i]? = some o → o.dst = some d → d < size
  le : nq ≤ ops.length
  nq : ∀ i, nq ≤ i → i < ops.length → ∀ j, j < i → j ∈ A.getD i []

theorem zipIdx_get {α : Type} (l : List α) (i : Nat) (x : α) (h : l[i]? = some x) : (x, i) ∈ l.zipIdx := by
  rw [List.mem_zipIdx_iff_getElem?]; exact h

theorem shape_of {ops : List Oper} {A : List (List Nat)} {size nq : Nat} (h : shapeB ops A size nq = true) : Shape ops A size nq := by
  unfold shapeB at h
  rw [Bool.and_eq_true, Bool.and_eq_true] at h
  obtain ⟨⟨h1, h0⟩, h2⟩ := h
  have h1 := List.all_eq_true.1 h1
  have key : ∀ i o, ops[i]? = some o → _ := fun i o ho => h1 (o, i) (zipIdx_get ops i o ho)
  simp only [Bool.and_eq_true] at key
  refine ⟨fun i o ho j hj => ?_, fun i o ho j hj => ?_, fun i o hi ho t ht j o' ho' hd => ?_, fun i o hi ho d hd j o' ho' hd' => ?_, fun i o d hi ho hd => ?_, of_decide_eq_true h0, fun i hi hlt j hj => ?_⟩
  · have := List.all_eq_true.1 (key i o ho).1.1 j hj
    simpa using this
  · have := List.all_eq_true.1 (key i o ho).1.2 j hj
    simp only [Bool.and_eq_true, Bool.or_eq_true, List.contains_iff_mem, List.any_eq_true, decide_eq_true_eq] at this
    exact this
  · have := (key i o ho).2
    simp only [Bool.or_eq_true, decide_eq_true_eq, Bool.and_eq_true] at this
    rcases this with h | h
    · omega
    have := List.all_eq_true.1 (List.all_eq_true.1 h.1 t ht) (o', j) (zipIdx_get ops j o' ho')
    simp [hd] at this
    simpa using this
  · have := (key i o ho).2
    simp only [Bool.or_eq_true, decide_eq_true_eq, Bool.and_eq_true] at this
    rcases this with h | h
    · omega
    have := h.2
    rw [hd] at this
    simp only [Bool.and_eq_true, decide_eq_true_eq] at this
    have := List.all_eq_true.1 this.2 (o', j) (zipIdx_get ops j o' ho')
    simpa [hd'] using this
  · have := (key i o ho).2
    simp only [Bool.or_eq_true, decide_eq_true_eq, Bool.and_eq_true] at this
    rcases this with h | h
    · omega
    have := h.2
    rw [hd] at this
    simp only [Bool.and_eq_true, decide_eq_true_eq] at this
    exact this.1
  · simp only [Bool.or_eq_true, decide_eq_true_eq, List.all_eq_true, List.contains_iff_mem, List.mem_range] at h2
    rcases h2 i hlt with h | h
    · omega
    · exact h j hj

theorem fr_in' {ops : List Oper} {res : List Res} {is : List Nat} {F : List (Nat × AV)} {j : Nat} {o : Oper} {r : AV} {ob : Option AObj} {t : Tmp} (hd : ∀ j' o', ops[j']? = some o' → o'.dst = some t → j = j') (hj : j ∈ is) (ho : ops[j]? = some o) (hr : res[j]? = some (r, ob)) (ht : o.dst = some t) :
    look (frOf ops res is ++ F) t = some r := by
  rw [look_app, look_some (frOf ops res is) t r (mem_frOf.2 ⟨j, o, r, ob, hj, ho, hr, ht, rfl⟩)]
  intro p hp he
  obtain ⟨j', o', r', ob', hj', ho', hr', hd', he'⟩ := mem_frOf.1 hp
  have := hd j' o' ho' (by rw [hd', he])
  subst this
  rw [hr] at hr'; cases hr'
  exact he'

def idx (nq : Nat) (listed : Array Bool) : List Nat := (List.range nq).filter fun j => listed.getD j false
theorem mem_idx {nq : Nat} {listed : Array Bool} {j : Nat} : j ∈ idx nq listed ↔ j < nq ∧ listed.getD j false = true := by simp [idx]

theorem readySome {ops : Array Oper} {listed : Array Bool} (hsz : listed.size = ops.size) (hb : ∀ i o, ops.toList[i]? = some o → ∀ j ∈ after1 o, j < i) :
    ∀ n, n ≤ ops.size → (∀ j, j < n → listed.getD j false = true) ∨ ∃ i, i < n ∧ i ∈ Region.ready .any ops listed
  | 0, _ => .inl fun j hj => by omega
  | n + 1, hn => by
    rcases readySome hsz hb n (by omega) with h | ⟨i, hi, hr⟩
    · cases hl : listed.getD n false with
      | true => exact .inl fun j hj => by rcases Nat.lt_or_ge j n with h1 | h1; exact h j h1; rw [show j = n by omega]; exact hl
      | false =>
        right
        refine ⟨n, by omega, mem_ready.2 ⟨?_, ops[n]'(by omega), Array.getElem?_eq_getElem (by omega), fun e he hbd => ?_⟩⟩
        · have : n < listed.size := by omega
          simpa [Array.getD_eq_getD_getElem?, this] using hl
        · refine h _ (hb n (ops[n]'(by omega)) (by simp [Array.getElem?_toList, show n < ops.size by omega]) e.on ?_)
          unfold after1
          rw [List.mem_map]
          exact ⟨e, by rw [List.mem_filter]; exact ⟨by simpa using he, hbd⟩, rfl⟩
    · exact .inr ⟨i, by omega, hr⟩

theorem getD_set_iff {listed : Array Bool} {i j : Nat} (h : i < listed.size) : (listed.setIfInBounds i true).getD j false = true ↔ j = i ∨ listed.getD j false = true := by
  by_cases e : i = j
  · subst e; simp [Array.getD_eq_getD_getElem?, h]
  · rw [getD_set_ne _ e]; simp [show ¬ j = i from fun h => e h.symm]

theorem SimF.tick (h : SimF E st m a w) : SimF E st m a { w with drawn := w.drawn + 1 } :=
  h.grow ⟨rfl, rfl, rfl, Nat.le_refl _, fun _ _ => rfl⟩

theorem SimF.obj_lt (h : SimF E st m a w) {n : Nat} {x : AObj} (hn : st.obj n = some x) : n < st.next := by
  obtain ⟨l, hl, _⟩ := h.objs n x hn
  rcases Nat.lt_or_ge n st.next with h1 | h1
  · exact h1
  · rw [h.fresh n h1] at hl; cases hl

theorem stMin_obj {ops : List Oper} {res : List Res} {is : List Nat} {n : Nat} {x : AObj} (h : (stMin ops res st is).obj n = some x) : (∃ j r, j ∈ is ∧ res[j]? = some (r, some x) ∧ n = st.next + j) ∨ st.obj n = some x := by
  unfold St.obj stMin at h
  simp only at h
  rw [look_app] at h
  split at h
  · rename_i y hy
    cases h
    obtain ⟨j, r, hj, hr, he⟩ := mem_obOf.1 (look_mem hy)
    exact .inl ⟨j, r, hj, hr, he⟩
  · exact .inr h

/-- The last ones, whose order is fixed. -/
theorem suffix_inv {Q : Exit → Act → World → Prop} {ops : Array Oper} {A : List (List Nat)} {sz nq : Nat} (hS : Shape ops.toList A sz nq) :
    ∀ (fuel i : Nat) (listed : Array Bool) (a : Act) (w : World), nq ≤ i → i ≤ ops.size → listed.size = ops.size → ops.size - i ≤ fuel → (∀ j, j < i → listed.getD j false = true) → (∀ j, i ≤ j → listed.getD j false = false) →
      wpList P ops Q (ops.toList.drop i) a w → wpAny P .any ops Q fuel listed a w := by
  have done : ∀ (fuel i : Nat) (listed : Array Bool) (a : Act) (w : World), i = ops.size → listed.size = ops.size → (∀ j, j < i → listed.getD j false = true) → wpList P ops Q (ops.toList.drop i) a w → wpAny P .any ops Q fuel listed a w := by
    intro fuel i listed a w hi hl hlo hw
    refine wpAny_done ?_ ?_ fuel
    · rw [List.eq_nil_iff_forall_not_mem]
      intro j hj
      obtain ⟨h1, o', ho', _⟩ := mem_ready.1 hj
      have hjlt : j < ops.size := (Array.getElem?_eq_some_iff.1 ho').1
      have h2 := hlo j (by omega)
      have h3 : j < listed.size := by omega
      simp only [Array.getD_eq_getD_getElem?, Array.getElem?_eq_getElem h3, Option.getD_some] at h1 h2
      rw [h1] at h2; cases h2
    · subst hi
      rw [List.drop_eq_nil_of_le (by simp)] at hw
      exact hw
  intro fuel
  induction fuel with
  | zero =>
    intro i listed a w hnq hi hl hf hlo hhi hw
    exact done 0 i listed a w (by omega) hl hlo hw
  | succ fuel ih =>
    intro i listed a w hnq hi hl hf hlo hhi hw
    rcases Nat.eq_or_lt_of_le hi with e | hlt
    · exact done _ i listed a w e hl hlo hw
    · have hoi : ops[i]? = some ops[i] := Array.getElem?_eq_getElem hlt
      have hdrop : ops.toList.drop i = ops[i] :: ops.toList.drop (i + 1) := by
        rw [List.drop_eq_getElem_cons (by simpa using hlt)]; simp
      rw [hdrop] at hw
      have hil := hhi i (Nat.le_refl _)
      have hready : ∀ j, j ∈ Region.ready .any ops listed → j = i := by
        intro j hj
        obtain ⟨h1, o, ho, hed⟩ := mem_ready.1 hj
        have hjlt : j < ops.size := (Array.getElem?_eq_some_iff.1 ho).1
        have hoL : ops.toList[j]? = some o := by simpa using ho
        have hjl : listed.getD j false = false := by
          have h2 : j < listed.size := by omega
          simpa [Array.getD_eq_getD_getElem?, h2] using h1
        rcases Nat.lt_trichotomy j i with h | h | h
        · rw [hlo j h] at hjl; cases hjl
        · exact h
        · exfalso
          have hedge : ∀ k ∈ after1 o, listed.getD k false = true := by
            intro k hk
            unfold after1 at hk
            rw [List.mem_map] at hk
            obtain ⟨e, he, rfl⟩ := hk
            rw [List.mem_filter] at he
            exact hed e (by simpa using he.1) he.2
          have hiA := hS.nq j (by omega) (by simpa using hjlt) i h
          rcases (hS.anc j o hoL i hiA).2 with h3 | ⟨k, hk, h3⟩
          · have := hedge i h3
            rw [hil] at this; cases this
          · have hkl := hedge k hk
            have hkj := hS.back j o hoL k hk
            have hk2 : ops.toList[k]? = some (ops[k]'(by omega)) := by simp [Array.getElem?_toList, show k < ops.size by omega]
            have := (hS.anc k _ hk2 i h3).1
            rw [hhi k (by omega)] at hkl; cases hkl
      have hmem : i ∈ Region.ready .any ops listed := by
        have hsL : ops.toList[i]? = some ops[i] := by simp [Array.getElem?_toList, hlt]
        refine mem_ready.2 ⟨?_, ops[i], hoi, fun e he hbd => ?_⟩
        · have : i < listed.size := by omega
          simpa [Array.getD_eq_getD_getElem?, this] using hil
        · refine hlo _ (hS.back i _ hsL e.on ?_)
          unfold after1
          rw [List.mem_map]
          exact ⟨e, by rw [List.mem_filter]; exact ⟨by simpa using he, hbd⟩, rfl⟩
      refine ⟨fun hr => (by rw [hr] at hmem; cases hmem), ?_⟩
      intro j hj
      have := hready j hj
      subst this
      unfold wpOp
      rw [hoi]
      simp only
      have next : ∀ a w, wpList P ops Q (ops.toList.drop (j + 1)) a w → wpAny P .any ops Q fuel (listed.setIfInBounds j true) a w := by
        intro a w h
        refine ih (j + 1) _ a w (by omega) (by omega) (by simpa using hl) (by omega) (fun k hk => ?_) (fun k hk => ?_) h
        · rw [getD_set_iff (by omega)]
          rcases Nat.lt_or_ge k j with h1 | h1
          · exact .inr (hlo k h1)
          · exact .inl (by omega)
        · rw [getD_set_ne _ (by omega)]
          exact hhi k (by omega)
      unfold wpList at hw
      split at hw
      · rename_i hwant
        rw [if_pos hwant]
        exact hw.imp (Oper.wp_mono next) id
      · rename_i hwant
        rw [if_neg hwant]
        exact next _ _ hw

theorem region_inv {Q : Exit → Act → World → Prop} {ops : Array Oper} {A : List (List Nat)} {res : List Res} {nq : Nat} (hS : Shape ops.toList A st.size nq) (hres : res.length = nq) (hst : ∀ n x, st.obj n = some x → n < st.next)
    (hops : ∀ i o re, ops.toList[i]? = some o → res[i]? = some re → OpA P ops.toList (stMin ops.toList res st (A.getD i [])) o (st.next + i) re)
    (heff : ∀ m a w, SimF E (stMin ops.toList res st (List.range nq)) m a w → ((∀ re ∈ res, re.2 = none) → ∀ n, st.next ≤ n → m n = none) → wpList P ops Q (ops.toList.drop nq) a w) :
    ∀ (fuel : Nat) (listed : Array Bool) (m : Nm) (a : Act) (w : World), listed.size = ops.size → ((List.range ops.size).filter fun j => !listed.getD j false).length ≤ fuel →
      (∀ i, listed.getD i false = true → ∀ j ∈ A.getD i [], listed.getD j false = true) → (∀ j, nq ≤ j → listed.getD j false = false) → SimF E (stMin ops.toList res st (idx nq listed)) m a w →
      (∀ j, j < nq → listed.getD j false = false → m (st.next + j) = none) → ((∀ re ∈ res, re.2 = none) → ∀ n, st.next ≤ n → m n = none) → wpAny P .any ops Q fuel listed a w := by
  have hle : nq ≤ ops.size := by simpa using hS.le
  have full : ∀ (listed : Array Bool), (∀ j, j < nq → listed.getD j false = true) → idx nq listed = List.range nq := by
    intro listed h
    unfold idx
    rw [List.filter_eq_self]
    intro j hj
    exact h j (by simpa using hj)
  have toSuffix : ∀ (fuel : Nat) (listed : Array Bool) (m : Nm) (a : Act) (w : World), listed.size = ops.size → ((List.range ops.size).filter fun j => !listed.getD j false).length ≤ fuel → (∀ j, nq ≤ j → listed.getD j false = false) →
      SimF E (stMin ops.toList res st (idx nq listed)) m a w → ((∀ re ∈ res, re.2 = none) → ∀ n, st.next ≤ n → m n = none) → (∀ j, j < nq → listed.getD j false = true) → wpAny P .any ops Q fuel listed a w := by
    intro fuel listed m a w hl hcnt hnq hs hno hf
    rw [full listed hf] at hs
    refine suffix_inv hS fuel nq listed a w (Nat.le_refl _) hle hl ?_ hf hnq (heff m a w hs hno)
    have hsub : (List.range ops.size).filter (fun j => !listed.getD j false) = (List.range ops.size).filter (fun j => decide (nq ≤ j)) := by
      apply List.filter_congr
      intro j hj
      rcases Nat.lt_or_ge j nq with h1 | h1
      · rw [hf j h1]; simp; omega
      · rw [hnq j h1]; simp; omega
    have hlen : ∀ n, ((List.range n).filter (fun j => decide (nq ≤ j))).length = n - nq := by
      intro n
      induction n with
      | zero => simp
      | succ n ih =>
        rw [List.range_succ, List.filter_append, List.length_append, ih]
        by_cases h : nq ≤ n
        · simp [h]; omega
        · simp [h]; omega
    rw [hsub, hlen] at hcnt
    exact hcnt
  intro fuel
  induction fuel with
  | zero =>
    intro listed m a w hl hcnt hdown hnq hs hfresh hno
    refine toSuffix 0 listed m a w hl hcnt hnq hs hno ?_
    intro j hj
    cases hlj : listed.getD j false with
    | true => rfl
    | false =>
      have hnil := List.eq_nil_of_length_eq_zero (Nat.le_zero.1 hcnt)
      have : j ∈ ((List.range ops.size).filter fun j => !listed.getD j false) := by
        rw [List.mem_filter, List.mem_range]
        exact ⟨by omega, by rw [hlj]; rfl⟩
      rw [hnil] at this; cases this
  | succ fuel ih =>
    intro listed m a w hl hcnt hdown hnq hs hfresh hno
    by_cases hfull : ∀ j, j < nq → listed.getD j false = true
    · exact toSuffix _ listed m a w hl hcnt hnq hs hno hfull
    refine ⟨?_, ?_⟩
    · intro hr
      exfalso
      rcases readySome hl hS.back nq hle with h | ⟨i, _, hi⟩
      · exact hfull h
      · rw [hr] at hi; cases hi
    intro i hi
    obtain ⟨h1, o, ho, hed⟩ := mem_ready.1 hi
    have hlt : i < ops.size := (Array.getElem?_eq_some_iff.1 ho).1
    have hoL : ops.toList[i]? = some o := by simpa using ho
    have hil : listed.getD i false = false := by
      have h2 : i < listed.size := by omega
      simpa [Array.getD_eq_getD_getElem?, h2] using h1
    have hedge : ∀ j ∈ after1 o, listed.getD j false = true := by
      intro j hj
      unfold after1 at hj
      rw [List.mem_map] at hj
      obtain ⟨e, he, rfl⟩ := hj
      rw [List.mem_filter] at he
      exact hed e (by simpa using he.1) he.2
    have hAi : ∀ j ∈ A.getD i [], listed.getD j false = true := by
      intro j hj
      rcases (hS.anc i o hoL j hj).2 with h | ⟨k, hk, h⟩
      · exact hedge j h
      · exact hdown k (hedge k hk) j h
    have hq : i < nq := by
      rcases Nat.lt_or_ge i nq with h | h
      · exact h
      · exact absurd (fun j hj => hAi j (hS.nq i h (by simpa using hlt) j (by omega))) hfull
    unfold wpOp
    rw [ho]
    simp only
    obtain ⟨re, hre⟩ : ∃ re, res[i]? = some re := ⟨res[i]'(by omega), List.getElem?_eq_getElem (by omega)⟩
    have hA : ∀ j, j ∈ A.getD i [] → j ∈ idx nq listed := fun j hj => mem_idx.2 ⟨by have := (hS.anc i o hoL j hj).1; omega, hAi j hj⟩
    have getres : ∀ j, j < nq → ∃ r ob, res[j]? = some (r, ob) := fun j hj => ⟨(res[j]'(by omega)).1, (res[j]'(by omega)).2, by rw [List.getElem?_eq_getElem (by omega)]⟩
    have hop : OpA P ops.toList (stMin ops.toList res st (idx nq listed)) o (st.next + i) re := by
      refine OpA_mono (s := stMin ops.toList res st (A.getD i [])) rfl rfl ?_ ?_ (hops i o re hoL hre)
      · intro t ht
        unfold St.raw stMin
        simp only
        by_cases hex : ∃ (j : Nat) (o' : Oper), ops.toList[j]? = some o' ∧ o'.dst = some t
        · obtain ⟨j, o', ho', hd⟩ := hex
          rcases hS.tmps i o hq hoL t ht j o' ho' hd with hj | hij
          rotate_left
          · have hno : ∀ (is : List Nat), j ∉ is → (∀ k ∈ is, k < nq) → ∀ j' o'', j' ∈ is → ops.toList[j']? = some o'' → o''.dst ≠ some t := by
              intro is hjs hlt' j' o'' hj' ho'' hd'
              have := hS.dist j' o'' (hlt' j' hj') ho'' t hd' j o' ho' hd
              subst this
              exact hjs hj'
            have h1 : j ∉ idx nq listed := by
              intro hj
              have := hdown j (mem_idx.1 hj).2 i hij
              rw [hil] at this; cases this
            have h2 : j ∉ A.getD i [] := by
              intro hj
              have h3 := (hS.anc i o hoL j hj).1
              have h4 := (hS.anc j o' ho' i hij).1
              omega
            rw [fr_out (hno _ h1 fun k hk => (mem_idx.1 hk).1), fr_out (hno _ h2 fun k hk => by have := (hS.anc i o hoL k hk).1; omega)]
          have hjlt : j < nq := by have := (hS.anc i o hoL j hj).1; omega
          obtain ⟨r, ob, hr⟩ := getres j hjlt
          have hdd := fun j' o'' h1 h2 => hS.dist j o' hjlt ho' t hd j' o'' h1 h2
          rw [fr_in' hdd (hA j hj) ho' hr hd, fr_in' hdd hj ho' hr hd]
        · rw [fr_out (fun j o' _ ho' hd => hex ⟨j, o', ho', hd⟩), fr_out (fun j o' _ ho' hd => hex ⟨j, o', ho', hd⟩)]
      · intro n x hn
        rcases stMin_obj hn with ⟨j, r, hj, hr, rfl⟩ | hn
        · exact ob_in (hA j hj) hr
        · have := hst n x hn
          show look _ n = some x
          rw [stMin]
          simp only
          rw [ob_out (fun j r o' _ _ e => by omega)]
          exact hn
    have hnm : m (st.next + i) = none := hfresh i hq hil
    refine OpA_exec hs hop hnm (by simp only [stMin, Array.length_toList]; omega) ?_
    intro m' a' w' hs' hm'
    have hset : ∀ j, j ∈ idx nq (listed.setIfInBounds i true) ↔ j = i ∨ j ∈ idx nq listed := by
      intro j
      rw [mem_idx, mem_idx, getD_set_iff (by omega)]
      constructor
      · rintro ⟨h1, h2⟩; exact h2.imp id fun h => ⟨h1, h⟩
      · rintro (rfl | ⟨h1, h2⟩)
        · exact ⟨hq, .inl rfl⟩
        · exact ⟨h1, .inr h2⟩
    refine ih (listed.setIfInBounds i true) m' a' w' (by simpa using hl) ?_ ?_ ?_ ?_ ?_ (fun hall n hn => (hm' n (.inr (hall re (List.mem_of_getElem? hre)))).trans (hno hall n hn))
    · have : ((List.range ops.size).filter fun j => !(listed.setIfInBounds i true).getD j false).length < ((List.range ops.size).filter fun j => !listed.getD j false).length := by
        have e : ((List.range ops.size).filter fun j => !(listed.setIfInBounds i true).getD j false) = (((List.range ops.size).filter fun j => !listed.getD j false)).filter fun j => j ≠ i := by
          rw [List.filter_filter]
          apply List.filter_congr
          intro j _
          have := getD_set_iff (listed := listed) (i := i) (j := j) (by omega)
          by_cases e : j = i
          · subst e; simp [this.2 (.inl rfl)]
          · cases hlj : listed.getD j false with
            | true => rw [this.2 (.inr hlj)]; simp
            | false =>
              have h3 : (listed.setIfInBounds i true).getD j false = false := by
                cases h4 : (listed.setIfInBounds i true).getD j false with
                | false => rfl
                | true => rcases this.1 h4 with h5 | h5; exact absurd h5 e; rw [hlj] at h5; cases h5
              rw [h3]; simp [e]
        rw [e]
        apply List.length_filter_lt_length_iff_exists.2
        exact ⟨i, by rw [List.mem_filter, List.mem_range]; exact ⟨hlt, by rw [hil]; rfl⟩, by simp⟩
      omega
    · intro k hk j hj
      rw [getD_set_iff (by omega)] at hk ⊢
      rcases hk with rfl | hk
      · exact .inr (hAi j hj)
      · exact .inr (hdown k hk j hj)
    · intro j hj
      rw [getD_set_ne _ (by omega)]
      exact hnq j hj
    · -- the state
      obtain ⟨r, ob⟩ := re
      refine hs'.same ?_ ?_ ?_ ?_ rfl
      · intro s
        have hleft : ∀ d, o.dst = some d → look (frOf ops.toList res (idx nq (listed.setIfInBounds i true)) ++ st.fr) d = some r := fun d hd =>
          fr_in' (fun j' o' h1 h2 => hS.dist i o hq hoL d hd j' o' h1 h2) ((hset i).2 (.inl rfl)) hoL hre hd
        have hother : o.dst ≠ some s → look (frOf ops.toList res (idx nq (listed.setIfInBounds i true)) ++ st.fr) s = look (frOf ops.toList res (idx nq listed) ++ st.fr) s := by
          intro hne
          by_cases hex : ∃ (j : Nat) (o' : Oper), j ∈ idx nq listed ∧ ops.toList[j]? = some o' ∧ o'.dst = some s
          · obtain ⟨j, o', hj, ho', hd⟩ := hex
            have hjlt := (mem_idx.1 hj).1
            obtain ⟨r', ob', hr⟩ := getres j hjlt
            have hdd := fun j' o'' h1 h2 => hS.dist j o' hjlt ho' s hd j' o'' h1 h2
            rw [fr_in' hdd ((hset j).2 (.inr hj)) ho' hr hd, fr_in' hdd hj ho' hr hd]
          · rw [fr_out, fr_out]
            · exact fun j o' hj ho' hd => hex ⟨j, o', hj, ho', hd⟩
            · intro j o' hj ho' hd
              rcases (hset j).1 hj with rfl | hj
              · rw [hoL] at ho'; cases ho'; exact hne hd
              · exact hex ⟨j, o', hj, ho', hd⟩
        unfold St.withRes
        cases hd : o.dst with
        | none =>
          have := hother (by rw [hd]; simp)
          cases ob <;> exact this
        | some d =>
          have hlt := hS.size i o d hq hoL hd
          by_cases e : d = s
          · subst e
            have := hleft d hd
            cases ob <;> simp [stMin, St.put, St.newAt, look, hlt, this]
          · have := hother (by rw [hd]; simpa using e)
            cases ob <;> simp [stMin, St.put, St.newAt, look, e, this]
      · intro n
        have h1 : ((stMin ops.toList res st (idx nq listed)).withRes o.dst (st.next + i) (r, ob)).obj n = look ((match ob with | some x => [(st.next + i, x)] | none => []) ++ (obOf res st.next (idx nq listed) ++ st.objs)) n := by
          unfold St.withRes St.obj
          rw [put_objs]
          cases ob <;> rfl
        rw [h1]
        show look (obOf res st.next (idx nq (listed.setIfInBounds i true)) ++ st.objs) n = _
        by_cases hex : ∃ j r' x, j ∈ idx nq (listed.setIfInBounds i true) ∧ res[j]? = some (r', some x) ∧ n = st.next + j
        · obtain ⟨j, r', x, hj, hr', rfl⟩ := hex
          rw [ob_in hj hr']
          rcases (hset j).1 hj with rfl | hj'
          · rw [hre] at hr'; cases hr'
            simp [look]
          · by_cases e : j = i
            · subst e
              rw [hre] at hr'; cases hr'
              simp [look]
            · cases ob with
              | none => simp only [List.nil_append]; rw [ob_in hj' hr']
              | some y =>
                simp only [List.cons_append, List.nil_append, look, show ¬ st.next + i = st.next + j by omega, if_false]
                rw [ob_in hj' hr']
        · rw [ob_out (fun j r' x hj hr' e => hex ⟨j, r', x, hj, hr', e⟩)]
          have h2 : look (obOf res st.next (idx nq listed) ++ st.objs) n = look st.objs n := ob_out (fun j r' x hj hr' e => hex ⟨j, r', x, (hset j).2 (.inr hj), hr', e⟩)
          cases ob with
          | none => simp only [List.nil_append]; rw [h2]
          | some y =>
            have : ¬ st.next + i = n := fun e => hex ⟨i, r, y, (hset i).2 (.inl rfl), hre, e.symm⟩
            simp only [List.cons_append, List.nil_append, look, this, if_false]
            rw [h2]
      · unfold St.withRes
        rw [put_next]
        cases ob <;> exact Nat.le_refl _
      · unfold St.withRes
        rw [put_size]
        cases ob <;> rfl
    · intro j hj hlj
      have e : j ≠ i := by rintro rfl; rw [(getD_set_iff (by omega)).2 (.inl rfl)] at hlj; cases hlj
      rw [hm' _ (.inl (by omega))]
      refine hfresh j hj ?_
      rw [getD_set_ne _ (fun h => e h.symm)] at hlj
      exact hlj

theorem region_any {Q : Exit → Act → World → Prop} {ops : Array Oper} {A : List (List Nat)} {res : List Res} {nq : Nat} (hP : P.follows .mixedOrders = true) (hS : Shape ops.toList A st.size nq) (hres : res.length = nq)
    (hops : ∀ i o re, ops.toList[i]? = some o → res[i]? = some re → OpA P ops.toList (stMin ops.toList res st (A.getD i [])) o (st.next + i) re) (h : SimF E st m a w)
    (heff : ∀ m a w, SimF E (stMin ops.toList res st (List.range nq)) m a w → ((∀ re ∈ res, re.2 = none) → ∀ n, st.next ≤ n → m n = none) → wpList P ops Q (ops.toList.drop nq) a w) :
    wpAny P .any ops Q ops.size (Array.replicate ops.size false) a { w with drawn := w.drawn + 1 } := by
  have hno : ∀ j, (Array.replicate ops.size false).getD j false = false := by
    intro j
    simp [Array.getD_eq_getD_getElem?, Array.getElem?_replicate]
    split <;> rfl
  refine region_inv hS hres (fun n x hn => h.obj_lt hn) hops heff ops.size _ m a _ (by simp) ?_ ?_ (fun j _ => hno j) ?_ ?_ (fun _ n hn => h.fresh n hn)
  · exact Nat.le_trans (List.length_filter_le _ _) (by simp)
  · intro i hi; rw [hno] at hi; cases hi
  · have e : idx nq (Array.replicate ops.size false) = [] := by
      unfold idx
      rw [List.filter_eq_nil_iff]
      intro j _
      rw [hno]; simp
    rw [e]
    exact h.tick.same (fun _ => rfl) (fun _ => rfl) (by simp [stMin]) rfl rfl
  · intro j _ _
    exact h.fresh _ (by omega)
end Go.Am
