import Derived.Laws.Externs
import Derived.Shelf.Spec.BitsCarry
import Derived.Test.YtholjnkcajjiiaaGreatPD3
import Derived.Test.YtholjnkcajjiiaaGreatPD4
import Derived.Test.YtholjnkcajjiiaaGreatPD6
set_option linter.unusedVariables false
set_option linter.unusedSimpArgs false
set_option pp.deepTerms false
set_option pp.deepTerms.threshold 40
namespace Go.Am
open Go.Proofs

theorem mayS_zero {l : List Seat} {e : Ev} {hz : Int} (h : mayS l e hz = 0) : checkS l = 0 ∧ evOk e = true ∧ -1 ≤ hz ∧ hz ≤ 1099511627776 ∧ mayT l e hz = 0 := by
  unfold mayS at h
  split at h
  · cases h
  rename_i h1
  split at h
  · cases h
  rename_i h2
  refine ⟨?_, ?_, by omega, by omega, h⟩
  · apply Classical.byContradiction; intro hn; exact h1 (.inl hn)
  · cases he : evOk e with | true => rfl | false => exact absurd (.inr he) h1
theorem mayT_len {l : List Seat} {e : Ev} {hz : Int} (h : mayT l e hz = 0) : seatF l e.router = none → ¬ l.length = 64 := by
  intro h1 h2
  unfold mayT at h
  split at h
  · cases h
  split at h
  · cases h
  split at h
  · cases h
  split at h
  · cases h
  rw [if_pos ⟨h1, h2⟩] at h
  cases h
theorem seatF_none {l : List Seat} {x : Int} : seatF l x = none ↔ ¬ ∃ s ∈ l, s.router = x := by
  induction l with
  | nil => simp [seatF]
  | cons s l ih =>
    rw [seatF]
    split
    · rename_i h
      simp [h]
    · rename_i h
      rw [ih]
      simp [h]
theorem cmpS_zero (n : Int) (x : Seat) : cmpS n x = 0 ↔ x.router = n := by
  have h1 := cmpS_lt n x
  have h2 := cmpS_gt n x
  omega
theorem seatF_bs {l : List Seat} (h : checkS l = 0) (x : Int) : seatF l x = none ↔ bsF (cmpS x) l = false := by
  rw [seatF_none]
  have hm := bs_mem (strictS h x)
  simp only [cmpS_zero] at hm
  rw [← hm]
  cases bsF (cmpS x) l <;> simp
theorem checkSL_of : ∀ {l : List Seat} {a : Int}, (∀ x ∈ l, rightS x = true) → (∀ x ∈ l, a < x.router) → (l.Pairwise fun x y => x.router < y.router) → checkSL l a = 0
  | [], a, _, _, _ => rfl
  | x :: l, a, h1, h2, h3 => by
    have h4 := List.pairwise_cons.1 h3
    have h5 := h2 x List.mem_cons_self
    rw [checkSL, if_neg (by simp [h1 x List.mem_cons_self]; omega)]
    exact checkSL_of (fun y hy => h1 y (List.mem_cons_of_mem _ hy)) h4.1 h4.2
theorem checkS_sorted {l : List Seat} (h : checkS l = 0) : l.Pairwise fun x y => x.router < y.router := by
  unfold checkS at h
  split at h
  · cases h
  · exact (checkSL_sorted h).2
theorem rightS_pos {x : Seat} (h : rightS x = true) : -1 < x.router := by
  simp [rightS] at h
  omega
theorem checkS_of {l : List Seat} (h0 : l.length ≤ 64) (h1 : ∀ x ∈ l, rightS x = true) (h3 : l.Pairwise fun x y => x.router < y.router) : checkS l = 0 := by
  unfold checkS
  rw [if_neg (by omega)]
  exact checkSL_of h1 (fun x hx => rightS_pos (h1 x hx)) h3
theorem evOk_seat {e : Ev} (h : evOk e = true) : rightS (seatOf e) = true ∧ idOk e.router = true := by
  unfold evOk headOk at h
  simp only [Bool.and_eq_true, decide_eq_true_eq] at h
  obtain ⟨⟨⟨⟨⟨a1, a2⟩, a3⟩, a4⟩, a5⟩, _⟩ := h
  refine ⟨?_, a1⟩
  simp only [idOk, Bool.and_eq_true, decide_eq_true_eq] at a1
  simp only [rightS, Bool.and_eq_true, decide_eq_true_eq]
  exact ⟨⟨⟨⟨⟨a1.1, a1.2⟩, a2⟩, a3⟩, a4⟩, a5⟩
theorem putSeat_mem {l : List Seat} {s t : Seat} (h : t ∈ putSeat l s) : t = s ∨ t ∈ l ∧ ¬ t.router = s.router := by
  simp only [putSeat, List.mem_append, List.mem_singleton, List.mem_filter, decide_eq_true_eq] at h
  rcases h with (h | h) | h
  · exact .inr ⟨h.1, by omega⟩
  · exact .inl h
  · exact .inr ⟨h.1, by omega⟩
theorem putSeat_ok {l : List Seat} {e : Ev} {hz : Int} (h : mayS l e hz = 0) : checkS (putSeat l (seatOf e)) = 0 := by
  obtain ⟨h1, h2, h3, h4, h5⟩ := mayS_zero h
  have hlen := checkS_len h1
  refine checkS_of ?_ ?_ ?_
  · rw [putSeat_cmp]
    cases hf : bsF (cmpS e.router) l with
    | true => rw [← bs_set (strictS h1 _) _ hf]; simpa using hlen
    | false =>
      rw [← bs_ins (strictS h1 _) _ hf]
      have := bsI_le (cmpS e.router) l
      have h9 := mayT_len h5 ((seatF_bs h1 _).2 hf)
      simp only [List.length_append, List.length_cons, List.length_take, List.length_drop]
      omega
  · intro t ht
    rcases putSeat_mem ht with rfl | ht
    · exact (evOk_seat h2).1
    · exact checkS_mem h1 t ht.1
  · refine pw_put (checkS_sorted h1) ?_ ?_ ?_
    · intro a ha h1
      exact of_decide_eq_true h1
    · intro a ha h1
      exact of_decide_eq_true h1
    · intro a b h1 h2
      omega
theorem cmpT_gt (n : Int) (x : Router) : 0 < cmpT n x ↔ n < x.id := by
  unfold cmpT cmpI
  repeat' split
  all_goals omega
theorem strictT {l : List Router} (h : l.Pairwise fun x y => x.id < y.id) (n : Int) : strictC (cmpT n) l := by
  refine h.imp fun {x y} hxy h0 => ?_
  rw [cmpT_gt]
  have := cmpT_neg n x
  omega
theorem routerF_mem : ∀ {R : List Router}, (R.Pairwise fun x y => x.id < y.id) → ∀ r ∈ R, routerF R r.id = some r
  | [], _, r, hr => by cases hr
  | x :: R, h, r, hr => by
    have h1 := List.pairwise_cons.1 h
    have ih := routerF_mem h1.2
    unfold routerF at *
    rw [List.find?_cons]
    rcases List.mem_cons.1 hr with rfl | hr
    · simp
    · have := h1.1 r hr
      have hne : decide (x.id = r.id) = false := by simp; omega
      rw [hne]
      exact ih r hr
theorem map_filter_rt (R0 : List Router) (d : Router) (p : Int → Bool) : ∀ (R : List Router) (S : List Seat), R.map Router.id = S.map Seat.router → (∀ r ∈ R, routerF R0 r.id = some r) → (S.filter fun s => p s.router).map (fun s => (routerF R0 s.router).getD d) = R.filter fun r => p r.id
  | [], [], _, _ => rfl
  | r :: R, s :: S, h, hr => by
    simp only [List.map_cons, List.cons.injEq] at h
    have ih := map_filter_rt R0 d p R S h.2 fun x hx => hr x (List.mem_cons_of_mem _ hx)
    rw [List.filter_cons, List.filter_cons, ← h.1]
    split
    · rw [List.map_cons, ih, ← h.1, hr r List.mem_cons_self]
      rfl
    · exact ih
  | [], _ :: _, h, _ => by simp at h
  | _ :: _, [], h, _ => by simp at h
theorem netOk_ids2 {n : Net} (h : netOk n = true) : n.routers.map Router.id = n.seats.map Seat.router := by
  unfold netOk at h
  simp only [Bool.and_eq_true, beq_iff_eq] at h
  exact (zipOk_map h.1.2).1
theorem netOk_checkS {n : Net} (h : netOk n = true) : checkS n.seats = 0 := by
  unfold netOk at h
  simp only [Bool.and_eq_true, beq_iff_eq] at h
  exact h.1.1.1
theorem map_afterN {n : Net} {e : Ev} {hz : Int} {m : Router} {l : List Seat} (h : ∀ s ∈ l, ¬ s.router = e.router) : l.map (afterN n e hz m) = l.map fun s => (routerF n.routers s.router).getD ⟨0, false, [], []⟩ := by
  apply List.map_congr_left
  intro s hs
  unfold afterN
  rw [if_neg (h s hs)]
theorem netAfter_routers {n : Net} {e : Ev} {hz : Int} (hok : netOk n = true) (h : mayS n.seats e hz = 0) : (netAfter n e hz).routers = n.routers.filter (fun r => decide (cmpT e.router r < 0)) ++ [(applyR (mineN n e) e).1] ++ n.routers.filter fun r => decide (0 < cmpT e.router r) := by
  have hn : (nextS n.seats e hz).1 = putSeat n.seats (seatOf e) := by
    unfold nextS
    rw [if_neg (by omega), if_neg (by omega)]
  unfold netAfter
  simp only [hn]
  generalize (applyR (mineN n e) e).1 = m
  unfold putSeat
  have hx : (seatOf e).router = e.router := rfl
  rw [hx, List.map_append, List.map_append]
  have hr := routerF_mem (netOk_routers hok).1
  have hid := netOk_ids2 hok
  rw [map_afterN (l := n.seats.filter fun s => decide (s.router < e.router)) (fun s hs => by have := of_decide_eq_true (List.mem_filter.1 hs).2; omega),
    map_afterN (l := n.seats.filter fun s => decide (e.router < s.router)) (fun s hs => by have := of_decide_eq_true (List.mem_filter.1 hs).2; omega)]
  rw [map_filter_rt n.routers _ (fun i => decide (i < e.router)) n.routers n.seats hid hr, map_filter_rt n.routers _ (fun i => decide (e.router < i)) n.routers n.seats hid hr]
  simp only [cmpT_neg, cmpT_gt, List.map_cons, List.map_nil]
  have : afterN n e hz m (seatOf e) = m := by unfold afterN; rw [if_pos hx]
  rw [this]
theorem zip_mem : ∀ {R : List Router} {S : List Seat}, zipOk R S = true → ∀ s ∈ S, ∃ r ∈ R, routerOk r = true ∧ r.id = s.router ∧ r.up = s.up
  | [], [], _, s, hs => by cases hs
  | r :: R, t :: S, h, s, hs => by
    simp [zipOk] at h
    obtain ⟨⟨⟨h1, h2⟩, h3⟩, h4⟩ := h
    rcases List.mem_cons.1 hs with rfl | hs
    · exact ⟨r, List.mem_cons_self, h1, h2, h3⟩
    · obtain ⟨r', a, b⟩ := zip_mem h4 s hs
      exact ⟨r', List.mem_cons_of_mem _ a, b⟩
  | [], _ :: _, h, _, _ => by simp [zipOk] at h
  | _ :: _, [], h, _, _ => by simp [zipOk] at h
theorem zip_of {f : Seat → Router} : ∀ {S : List Seat}, (∀ s ∈ S, routerOk (f s) = true ∧ (f s).id = s.router ∧ (f s).up = s.up) → zipOk (S.map f) S = true
  | [], _ => rfl
  | s :: S, h => by
    obtain ⟨h1, h2, h3⟩ := h s List.mem_cons_self
    simp only [List.map_cons, zipOk, h1, h2, h3, beq_self_eq_true, Bool.and_self, Bool.true_and]
    exact zip_of fun t ht => h t (List.mem_cons_of_mem _ ht)
theorem mineN_ok {n : Net} {e : Ev} (hok : netOk n = true) (he : evOk e = true) : routerOk (mineN n e) = true ∧ e.router = (mineN n e).id := by
  unfold mineN
  have hid := (evOk_seat he).2
  cases hr : routerF n.routers e.router with
  | some r =>
    have h1 := List.find?_some hr
    have h2 := List.mem_of_find?_eq_some hr
    simp at h1
    exact ⟨(netOk_routers hok).2 r h2, h1.symm⟩
  | none =>
    simp [hid, routerOk, checkR, checkRL, checkL, checkLL]
theorem netAfter_ok {n : Net} {e : Ev} {hz : Int} (hok : netOk n = true) (h : mayS n.seats e hz = 0) (h2 : (applyR (mineN n e) e).2 = 0) (h3 : ¬ 1024 < many (netAfter n e hz).routers 0) : netOk (netAfter n e hz) = true := by
  obtain ⟨g1, g2, g3, g4, g5⟩ := mayS_zero h
  have hn : (nextS n.seats e hz).1 = putSeat n.seats (seatOf e) := by
    unfold nextS
    rw [if_neg (by omega), if_neg (by omega)]
  obtain ⟨m1, m2⟩ := mineN_ok hok g2
  obtain ⟨a1, a2, a3⟩ := applyR_ok m1 g2 m2 h2
  have hz' : zipOk n.routers n.seats = true := by
    unfold netOk at hok
    simp only [Bool.and_eq_true, beq_iff_eq] at hok
    exact hok.1.2
  unfold netOk
  simp only [Bool.and_eq_true, beq_iff_eq, decide_eq_true_eq]
  refine ⟨⟨⟨?_, ?_⟩, ?_⟩, by omega⟩
  · show checkS (nextS n.seats e hz).1 = 0
    rw [hn]
    exact putSeat_ok h
  · simp [netAfter]
  · show zipOk ((nextS n.seats e hz).1.map _) (nextS n.seats e hz).1 = true
    refine zip_of fun s hs => ?_
    rw [hn] at hs
    unfold afterN
    rcases putSeat_mem hs with rfl | ⟨hs, hne⟩
    · rw [if_pos (show (seatOf e).router = e.router from rfl)]
      exact ⟨a1, a2, a3⟩
    · rw [if_neg (show ¬ s.router = e.router from hne)]
      obtain ⟨r, b1, b2, b3, b4⟩ := zip_mem hz' s hs
      rw [← b3, routerF_mem (netOk_routers hok).1 r b1]
      exact ⟨b2, rfl, b4⟩
theorem happensF_ok {n : Net} {e : Ev} {hz : Int} (hok : netOk n = true) : netOk (happensF n e hz).1 = true := by
  unfold happensF
  split
  · exact hok
  rename_i h1
  split
  · exact hok
  rename_i h2
  split
  · exact hok
  rename_i h3
  exact netAfter_ok hok (by omega) (by omega) h3
def sz (r : Router) : Nat := r.routes.length + r.links.length
def sumR : List Router → Nat
  | [] => 0
  | r :: l => sz r + sumR l
theorem sumR_app (a b : List Router) : sumR (a ++ b) = sumR a + sumR b := by
  induction a with
  | nil => simp [sumR]
  | cons x a ih => simp only [List.cons_append, sumR, ih]; omega
theorem many_sum : ∀ (l : List Router) (a : Nat), a + sumR l ≤ 1000000000 → many l a = (a + sumR l : Nat)
  | [], a, _ => by simp [many, sumR]
  | r :: l, a, h => by
    simp only [sumR] at h ⊢
    unfold sz at h
    have e1 : IntKind.i64.wrap ((r.routes.length : Int) + r.links.length) = (sz r : Nat) := by
      rw [wrap64 (by omega) (by omega)]
      unfold sz
      omega
    have e2 : IntKind.i64.wrap ((a : Int) + (sz r : Nat)) = (a + sz r : Nat) := by
      unfold sz
      rw [wrap64 (by omega) (by omega)]
      omega
    rw [many, e1, e2, many_sum l (a + sz r) (by unfold sz; omega)]
    congr 1
    omega
theorem sumR_le : ∀ {l : List Router}, (∀ r ∈ l, routerOk r = true) → sumR l ≤ 288 * l.length
  | [], _ => by simp [sumR]
  | r :: l, h => by
    have h1 := routerOk_len (h r List.mem_cons_self)
    have h2 := sumR_le fun x hx => h x (List.mem_cons_of_mem _ hx)
    simp only [sumR, List.length_cons]
    unfold sz
    omega
theorem netOk_many {n : Net} (hok : netOk n = true) : many n.routers 0 = sumR n.routers ∧ sumR n.routers ≤ 1024 := by
  have h1 := sumR_le (netOk_routers hok).2
  have h2 := netOk_len hok
  have h3 := many_sum n.routers 0 (by omega)
  have h4 : many n.routers 0 = sumR n.routers := by simpa using h3
  refine ⟨h4, ?_⟩
  unfold netOk at hok
  simp only [Bool.and_eq_true, beq_iff_eq, decide_eq_true_eq] at hok
  omega
theorem mineN_found {n : Net} {e : Ev} (hok : netOk n = true) (hf : bsF (cmpT e.router) n.routers = true) : n.routers[bsI (cmpT e.router) n.routers]? = some (mineN n e) := by
  have h := routerF_bs (n := e.router) (netOk_routers hok).1
  rw [if_pos hf] at h
  obtain ⟨y, hy⟩ := bsF_lt hf
  unfold mineN
  rw [h, hy]
theorem mineN_new {n : Net} {e : Ev} (hok : netOk n = true) (he : evOk e = true) (hf : bsF (cmpT e.router) n.routers = false) : mineN n e = ⟨e.router, false, [], []⟩ := by
  have h := routerF_bs (n := e.router) (netOk_routers hok).1
  rw [if_neg (by simp [hf])] at h
  unfold mineN
  rw [h]
  simp [(evOk_seat he).2]
theorem after_set {n : Net} {e : Ev} {hz : Int} (hok : netOk n = true) (h : mayS n.seats e hz = 0) (hf : bsF (cmpT e.router) n.routers = true) : (netAfter n e hz).routers = n.routers.set (bsI (cmpT e.router) n.routers) (applyR (mineN n e) e).1 := by
  rw [netAfter_routers hok h, bs_set (strictT (netOk_routers hok).1 _) _ hf]
theorem after_ins {n : Net} {e : Ev} {hz : Int} (hok : netOk n = true) (h : mayS n.seats e hz = 0) (hf : bsF (cmpT e.router) n.routers = false) : (netAfter n e hz).routers = n.routers.take (bsI (cmpT e.router) n.routers) ++ (applyR (mineN n e) e).1 :: n.routers.drop (bsI (cmpT e.router) n.routers) := by
  rw [netAfter_routers hok h, bs_ins (strictT (netOk_routers hok).1 _) _ hf]
theorem many_after {n : Net} {e : Ev} {hz : Int} (hok : netOk n = true) (h : mayS n.seats e hz = 0) (h2 : (applyR (mineN n e) e).2 = 0) : many (netAfter n e hz).routers 0 = (sumR n.routers : Int) - sz (mineN n e) + sz (applyR (mineN n e) e).1 ∧ sz (mineN n e) ≤ sumR n.routers ∧ sz (applyR (mineN n e) e).1 ≤ 288 := by
  obtain ⟨g1, g2, g3, g4, g5⟩ := mayS_zero h
  obtain ⟨m1, m2⟩ := mineN_ok hok g2
  obtain ⟨a1, a2, a3⟩ := applyR_ok m1 g2 m2 h2
  have hb := (netOk_many hok).2
  have hl := routerOk_len a1
  have hA : sz (applyR (mineN n e) e).1 ≤ 288 := by unfold sz; omega
  cases hf : bsF (cmpT e.router) n.routers with
  | true =>
    have hg := mineN_found hok hf
    rw [after_set hok h hf]
    obtain ⟨hi, hge⟩ := List.getElem?_eq_some_iff.1 hg
    have hs : sumR n.routers = sumR (n.routers.take (bsI (cmpT e.router) n.routers)) + (sz (mineN n e) + sumR (n.routers.drop (bsI (cmpT e.router) n.routers + 1))) := by
      conv => lhs; rw [← List.take_append_drop (bsI (cmpT e.router) n.routers) n.routers, sumR_app, List.drop_eq_getElem_cons hi, hge, sumR]
    have hs2 : sumR (n.routers.set (bsI (cmpT e.router) n.routers) (applyR (mineN n e) e).1) = sumR (n.routers.take (bsI (cmpT e.router) n.routers)) + (sz (applyR (mineN n e) e).1 + sumR (n.routers.drop (bsI (cmpT e.router) n.routers + 1))) := by
      rw [List.set_eq_take_append_cons_drop, if_pos hi, sumR_app, sumR]
    have hm := many_sum (n.routers.set (bsI (cmpT e.router) n.routers) (applyR (mineN n e) e).1) 0 (by omega)
    refine ⟨?_, by omega, hA⟩
    rw [show ((0 : Int)) = ((0 : Nat) : Int) from rfl, hm]
    omega
  | false =>
    have hg := mineN_new hok g2 hf
    have h0 : sz (mineN n e) = 0 := by rw [hg]; rfl
    rw [after_ins hok h hf]
    have hs : sumR n.routers = sumR (n.routers.take (bsI (cmpT e.router) n.routers)) + sumR (n.routers.drop (bsI (cmpT e.router) n.routers)) := by
      conv => lhs; rw [← List.take_append_drop (bsI (cmpT e.router) n.routers) n.routers, sumR_app]
    have hs2 : sumR (n.routers.take (bsI (cmpT e.router) n.routers) ++ (applyR (mineN n e) e).1 :: n.routers.drop (bsI (cmpT e.router) n.routers)) = sumR (n.routers.take (bsI (cmpT e.router) n.routers)) + (sz (applyR (mineN n e) e).1 + sumR (n.routers.drop (bsI (cmpT e.router) n.routers))) := by
      rw [sumR_app, sumR]
    have hm := many_sum (n.routers.take (bsI (cmpT e.router) n.routers) ++ (applyR (mineN n e) e).1 :: n.routers.drop (bsI (cmpT e.router) n.routers)) 0 (by omega)
    refine ⟨?_, by omega, hA⟩
    rw [show ((0 : Int)) = ((0 : Nat) : Int) from rfl, hm]
    omega
end Go.Am


set_option linter.unusedVariables false
set_option linter.unusedSimpArgs false
set_option pp.deepTerms false
set_option pp.deepTerms.threshold 40
namespace Go.Am
open Go.Proofs

theorem Router.len_of {r : Router} (h : routerOk r = true) : r.routes.length ≤ 4096 ∧ r.links.length ≤ 4096 := by
  have := routerOk_len h
  omega
theorem mod_same {α : Type} (f : α → List IV) (l : List α) (i : Nat) (s : α) (hs : l[i]? = some s) (g : List IV → List IV) (hg : ∀ x, g (f x) = f s) : (l.map f).modify i g = l.map f := by
  rw [mod_set f l s i g hg]
  congr 1
  apply List.ext_getElem?
  intro j
  rw [List.getElem?_set]
  split
  · rename_i h
    subst h
    rw [if_pos (List.getElem?_eq_some_iff.1 hs).1, hs]
  · rfl
set_option maxRecDepth 8000 in
set_option maxHeartbeats 1000000 in
theorem ownN_spec (n : Net) (h : netOk n = true) : FSpec Tryz.prog 126 [n.av] [] (.agg [.im (.sl 4 (n.seats.map Seat.iv)), .row 0]) [.row 85 4 (n.routers.map Router.iv)] := by
  have h1 := netOk_seats h
  have h2 := netOk_len h
  have h3 := (netOk_routers h).2
  have hc1 := cloSeat_spec (n.seats.map Seat.iv) (by simp; omega)
  have hc2 := cloRouter_spec (n.routers.map Router.iv) (by simp; omega)
  refine FSpec.of_o (q := [(1, .m [.p [], .p [], .e [6], .p [0], .p [0], .e [9], .p [1]]), (5, .m [.p [1], .p [1], .p [1], .p [], .e [24]])]) Tryz.func126 (by kernel_rfl) rfl Tryz.ntmps126 Tryz.results126 hP (by kernel_rfl) (by simp) (by first | rfl | simp) ?_
  simp -implicitDefEqProofs
  refine CallK.outs [] hc1 rfl (by simp) (by simp [AV.flat]) ?_
  simp -implicitDefEqProofs
  refine CallK.outs [] hc2 rfl (by simp) (by simp [AV.flat]) ?_
  simp -implicitDefEqProofs
  refine LoopK.os (fun k : Nat => [(1, .ptr 0 0), (2, .ptr 1 0), (14, .row 3), (15, .int .i64 n.routers.length), (16, .int .i64 k)])
    (fun _ => [.box 25 [.row 2, .row 3], .box 25 [.im (.sc (.slice none 0 0)), .im (.sc (.slice none 0 0))], .row 65 4 (n.seats.map Seat.iv), .row 85 4 (n.routers.map Router.iv)])
    (fun k => k ≤ n.routers.length) (fun k => n.routers.length - k) 0 [0, 1, 2, 3] (Nat.zero_le _) (by simp) ?_
  intro k hk
  by_cases hlt : k < n.routers.length
  · have e1 : IntKind.i64.wrap (k + 1) = (k + 1 : Nat) := wrap64 (by omega) (by omega)
    have hg := List.getElem?_eq_getElem hlt
    obtain ⟨y, hy⟩ : ∃ y, n.routers[k] = y := ⟨_, rfl⟩
    rw [hy] at hg
    have hyo := Router.len_of (h3 y (List.mem_of_getElem? hg))
    have ho := ownF_spec y hyo.1 hyo.2
    simp -implicitDefEqProofs [hlt, hy]
    first | refine CallK.same (ho) rfl rfl ?_ | refine CallQ.same (ho) rfl rfl ?_ | refine CallQG.same _ (ho) rfl ?_ | refine CallG.same _ (ho) rfl ?_ | refine CallK.pv (ho) rfl rfl ?_
    simp -implicitDefEqProofs [hlt]
    refine Again.os (k + 1) [0, 1, 2, 3] hlt (by omega) ?_
    have hm := mod_same Router.iv n.routers k y hg (fun x => y.iv ++ x.drop 4) (fun x => by simp)
    simp -implicitDefEqProofs at hm
    simp -implicitDefEqProofs [e1, hm]
  · have hkk : k = n.routers.length := by omega
    subst hkk
    simp -implicitDefEqProofs
    refine EndO.ret [2] [3] (.agg [.row 2, .row 3]) (by simp) ?_
    simp -implicitDefEqProofs
theorem placeN_spec (n : Net) (x : Int) (h : netOk n = true) : FSpec Tryz.prog 123 [n.av, .int .i64 x] [] (.tup [.int .i64 (bsI (cmpT x) n.routers), .bool (bsF (cmpT x) n.routers)]) [] := by
  have hb := bsT_spec n.routers x (upT_of (netOk_routers h).1 x)
  refine FSpec.of_flat (q := []) Tryz.func123 (by kernel_rfl) rfl Tryz.ntmps123 Tryz.results123 hP (by kernel_rfl) (by simp) (by first | rfl | simp) ?_
  simp -implicitDefEqProofs
  first | refine CallK.same (hb) rfl rfl ?_ | refine CallQ.same (hb) rfl rfl ?_ | refine CallQG.same _ (hb) rfl ?_ | refine CallG.same _ (hb) rfl ?_ | refine CallK.pv (hb) rfl rfl ?_
  simp -implicitDefEqProofs
@[simp] def webO (n : Net) (k : Nat) : AObj := .box 177 [.im (.sl 4 (n.seats.map Seat.iv)), .row k]
theorem total0_spec (x : Int) (b : Bool) : FSpec Tryz.prog 121 [.im (.sl 4 [[.sc (.int .i64 x), .sc (.bool b), .sc (.slice none 0 0), .sc (.slice none 0 0)]])] [] (.int .i64 0) [] := by
  refine FSpec.of_flat (q := []) Tryz.func121 (by kernel_rfl) rfl Tryz.ntmps121 Tryz.results121 hP (by kernel_rfl) (by simp) (by first | rfl | simp) ?_
  simp
  refine LoopK.plain (fun g : Nat => [(3, .int .i64 0), (6, .im (.sl 4 [[.sc (.int .i64 x), .sc (.bool b), .sc (.slice none 0 0), .sc (.slice none 0 0)]])), (7, .int .i64 1), (8, .int .i64 g)]) (fun g => g ≤ 1)
    (fun g => 1 - g) 0 (Nat.zero_le _) (by simp) ?_
  intro k hk
  by_cases hlt : k = 0
  · subst hlt
    simp
    exact Again.plain 1 (Nat.le_refl _) (by omega) (by simp; decide)
  · have : k = 1 := by omega
    subst this
    simp
theorem wrapS {x : Int} (h0 : -1000000 ≤ x) (h1 : x ≤ 1000000) : IntKind.i64.wrap x = x := wrap64 (by omega) (by omega)
theorem happensF_zero {n : Net} {e : Ev} {hz : Int} (h : (happensF n e hz).2 = 0) : mayS n.seats e hz = 0 ∧ (applyR (mineN n e) e).2 = 0 ∧ ¬ 1024 < many (netAfter n e hz).routers 0 := by
  unfold happensF at h
  split at h
  · rename_i h1; exact absurd h h1
  rename_i h1
  split at h
  · rename_i h2; exact absurd h h2
  rename_i h2
  split at h
  · cases h
  rename_i h3
  exact ⟨by omega, by omega, h3⟩
theorem nextS_zero {l : List Seat} {e : Ev} {hz : Int} (h : mayS l e hz = 0) : nextS l e hz = (putSeat l (seatOf e), 0) := by
  unfold nextS
  rw [if_neg (by omega), if_neg (by omega)]
set_option maxRecDepth 8000 in
set_option maxHeartbeats 4000000 in
theorem happenU_spec (n : Net) (e : Ev) (hz : Int) (hok : netOk n = true) (hsq : 0 ≤ e.seq) (hcase : bsF (cmpT e.router) n.routers = false → ¬ (happensF n e hz).2 = 0) :
    FSpec Tryz.prog 127 [.ptr 0 0, e.av, .int .i64 hz] [webO n 1, .row 85 4 (n.routers.map Router.iv)] (.int .i64 (happensF n e hz).2) [webO (happensF n e hz).1 1, .row 85 4 ((happensF n e hz).1.routers.map Router.iv)] := by
  have h1 := mayO_spec n.seats e hz hsq
  have h2 := placeN_spec n e.router hok
  have h4 := applyRo_spec (mineN n e) e hsq
  have h5 := nextO_spec n.seats e hz hsq
  have hfd := mineN_found (e := e) hok
  have hnw := mineN_new (e := e) hok
  have hset := after_set (e := e) (hz := hz) hok
  have hma := many_after (e := e) (hz := hz) hok
  have hmn := netOk_many hok
  have hns : (netAfter n e hz).seats = (nextS n.seats e hz).1 := rfl
  have hns0 := nextS_zero (l := n.seats) (e := e) (hz := hz)
  have hx : happensF n e hz = (if ¬ mayS n.seats e hz = 0 then (n, mayS n.seats e hz)
  else if ¬ (applyR (mineN n e) e).2 = 0 then (n, (applyR (mineN n e) e).2)
  else if 1024 < many (netAfter n e hz).routers 0 then (n, 8)
  else (netAfter n e hz, 0)) := rfl
  have hev : mayS n.seats e hz = 0 → evOk e = true := fun h => (mayS_zero h).2.1
  have htot := total_spec n.routers
  have htotm := total_spec [mineN n e]
  have hm1 : many [mineN n e] 0 = (many [] (IntKind.i64.wrap (0 + IntKind.i64.wrap ((mineN n e).routes.length + (mineN n e).links.length)))) := rfl
  have hmle : sz (mineN n e) ≤ 1000000 → many [mineN n e] 0 = (sz (mineN n e) : Int) := by
    intro hle
    have := many_sum [mineN n e] 0 (by simp [sumR]; omega)
    simpa [sumR] using this
  clear hm1
  generalize netAfter n e hz = NA at *
  generalize happensF n e hz = RES at *
  generalize applyR (mineN n e) e = AR at *
  generalize nextS n.seats e hz = NX at *
  generalize bsI (cmpT e.router) n.routers = i at *
  refine FSpec.of_o (q := [(1, .m [.p [], .p [], .p [], .p [], .p [], .p [], .p []]), (4, .m [.p [], .p [], .p [], .p [], .p [], .p [], .e [29, 31], .p [], .p [], .p [], .p []]), (12, .m [.p [], .p [], .p [], .p [], .p [], .e [62], .p [0], .e [64], .p [], .p [0, 1], .p [0, 1], .p [0, 1], .p [], .p [0, 1], .p [0, 1], .p [0, 1]]), (15, .m [.p [1, 2], .p [1], .p [1], .p [1], .p [1], .p [1], .p [1], .p [], .e [85], .e [83, 84, 86]]), (16, .m [.p [], .p [], .p [], .p [], .p [], .p [], .p []]), (17, .m [.p [1], .p [], .p [], .p [], .p [], .p [], .p [], .p [], .e [105, 106, 107], .p [], .p [], .p [2], .p [], .p [], .p [], .e [113, 109]])]) Tryz.func127 (by kernel_rfl) rfl Tryz.ntmps127 Tryz.results127 hP (by kernel_rfl) (by simp) (by first | rfl | simp) ?_
  simp -implicitDefEqProofs
  first | refine CallK.same (h1) rfl rfl ?_ | refine CallQ.same (h1) rfl rfl ?_ | refine CallQG.same _ (h1) rfl ?_ | refine CallG.same _ (h1) rfl ?_ | refine CallK.pv (h1) rfl rfl ?_
  simp -implicitDefEqProofs
  refine ⟨fun h => ?_, fun a1 => ?_⟩
  · rw [if_pos h] at hx
    subst hx
    refine EndO.ret [] [0, 1] (.int .i64 (mayS n.seats e hz)) (by simp) (by simp)
  rw [if_neg (by simp [a1])] at hx
  have he := hev a1
  refine CallK.fz [1] h2 rfl (by simp) rfl ?_
  simp -implicitDefEqProofs
  cases hf : bsF (cmpT e.router) n.routers with
  | true =>
    have hg := hfd hf
    obtain ⟨hlt, hge⟩ := List.getElem?_eq_some_iff.1 hg
    simp -implicitDefEqProofs [hlt, hge]
    generalize mineN n e = M at *
    first | refine CallK.same (h4) rfl rfl ?_ | refine CallQ.same (h4) rfl rfl ?_ | refine CallQG.same _ (h4) rfl ?_ | refine CallG.same _ (h4) rfl ?_ | refine CallK.pv (h4) rfl rfl ?_
    simp -implicitDefEqProofs
    refine ⟨fun h => ?_, fun b1 => ?_⟩
    · rw [if_pos h] at hx
      subst hx
      refine EndO.ret [] [0, 1] (.int .i64 AR.2) (by simp) (by simp)
    rw [if_neg (by simp [b1])] at hx
    obtain ⟨c1, c2, c3⟩ := hma a1 b1
    have d1 := hmle (by omega)
    refine CallK.fz [1] htot rfl (by simp) rfl ?_
    simp -implicitDefEqProofs
    refine CallK.fz [5] htotm rfl (by simp) rfl ?_
    have w1 : IntKind.i64.wrap (many n.routers 0 - many [M] 0) = (sumR n.routers : Int) - sz M := by rw [hmn.1, d1]; exact wrapS (by omega) (by omega)
    have w2 : IntKind.i64.wrap ((sumR n.routers : Int) - sz M + AR.1.routes.length) = (sumR n.routers : Int) - sz M + AR.1.routes.length := wrapS (by unfold sz at *; omega) (by unfold sz at *; omega)
    have w3 : IntKind.i64.wrap ((sumR n.routers : Int) - sz M + AR.1.routes.length + AR.1.links.length) = many NA.routers 0 := by rw [wrapS (by unfold sz at *; omega) (by unfold sz at *; omega), c1]; unfold sz; omega
    simp -implicitDefEqProofs [w1, w2, w3]
    refine ⟨fun h => ?_, fun d3 => ?_⟩
    · rw [if_pos h] at hx
      subst hx
      refine EndO.ret [] [0, 1] (.int .i64 8) (by simp) (by simp)
    rw [if_neg (by omega)] at hx
    have hs := hset a1 hf
    have hmod := mod_set Router.iv n.routers AR.1 i (fun x => AR.1.iv ++ x.drop 4) (fun x => by simp)
    rw [← hs] at hmod
    have hn0 := hns0 a1
    subst hn0
    subst hx
    simp -implicitDefEqProofs [hlt]
    first | refine CallK.same (h5) rfl rfl ?_ | refine CallQ.same (h5) rfl rfl ?_ | refine CallQG.same _ (h5) rfl ?_ | refine CallG.same _ (h5) rfl ?_ | refine CallK.pv (h5) rfl rfl ?_
    simp -implicitDefEqProofs
    refine EndO.ret [] [0, 1] (.int .i64 0) (by simp) ?_
    rw [← hmod, hns]
    simp -implicitDefEqProofs
  | false =>
    have hg := hnw he hf
    have hne := hcase hf
    simp -implicitDefEqProofs
    generalize mineN n e = M at *
    refine CallK.v0 h4 rfl (by simp [hg]) rfl ?_
    simp -implicitDefEqProofs
    refine ⟨fun h => ?_, fun b1 => ?_⟩
    · rw [if_pos h] at hx
      subst hx
      refine EndO.ret [] [0, 1] (.int .i64 AR.2) (by simp) (by simp)
    rw [if_neg (by simp [b1])] at hx
    obtain ⟨c1, c2, c3⟩ := hma a1 b1
    have d1 := hmle (by omega)
    have d2 : sz M = 0 := by rw [hg]; rfl
    refine CallK.fz [1] htot rfl (by simp) rfl ?_
    simp -implicitDefEqProofs
    refine CallK.fz [5] (total0_spec e.router false) rfl (by simp) rfl ?_
    have w1 : IntKind.i64.wrap (many n.routers 0) = (sumR n.routers : Int) - sz M := by rw [hmn.1, wrapS (by omega) (by omega)]; omega
    have w2 : IntKind.i64.wrap ((sumR n.routers : Int) - sz M + AR.1.routes.length) = (sumR n.routers : Int) - sz M + AR.1.routes.length := wrapS (by unfold sz at *; omega) (by unfold sz at *; omega)
    have w3 : IntKind.i64.wrap ((sumR n.routers : Int) - sz M + AR.1.routes.length + AR.1.links.length) = many NA.routers 0 := by rw [wrapS (by unfold sz at *; omega) (by unfold sz at *; omega), c1]; unfold sz; omega
    simp -implicitDefEqProofs [w1, w2, w3]
    refine ⟨fun h => ?_, fun d3 => ?_⟩
    · rw [if_pos h] at hx
      subst hx
      refine EndO.ret [] [0, 1] (.int .i64 8) (by simp) (by simp)
    · rw [if_neg (by omega)] at hx
      subst hx
      exact absurd rfl hne
set_option maxRecDepth 8000 in
set_option maxHeartbeats 4000000 in
theorem happenI_spec (n : Net) (e : Ev) (hz : Int) (hok : netOk n = true) (hsq : 0 ≤ e.seq) (h0 : (happensF n e hz).2 = 0) (hf : bsF (cmpT e.router) n.routers = false) :
    FSpec Tryz.prog 127 [.ptr 0 0, e.av, .int .i64 hz] [webO n 1, .row 85 4 (n.routers.map Router.iv)] (.int .i64 (happensF n e hz).2) [webO (happensF n e hz).1 2, .gone, .row 85 4 ((happensF n e hz).1.routers.map Router.iv)] := by
  have h1 := mayO_spec n.seats e hz hsq
  have h2 := placeN_spec n e.router hok
  have h4 := applyRo_spec (mineN n e) e hsq
  have h5 := nextO_spec n.seats e hz hsq
  have hfd := mineN_found (e := e) hok
  have hnw := mineN_new (e := e) hok
  obtain ⟨a1, b1, d3⟩ := happensF_zero h0
  have hins := after_ins (hz := hz) hok a1 hf
  have hil := bsI_le (cmpT e.router) n.routers
  have hma := many_after (e := e) (hz := hz) hok
  have hmn := netOk_many hok
  have hns : (netAfter n e hz).seats = (nextS n.seats e hz).1 := rfl
  have hns0 := nextS_zero (l := n.seats) (e := e) (hz := hz)
  have hx : happensF n e hz = (if ¬ mayS n.seats e hz = 0 then (n, mayS n.seats e hz)
  else if ¬ (applyR (mineN n e) e).2 = 0 then (n, (applyR (mineN n e) e).2)
  else if 1024 < many (netAfter n e hz).routers 0 then (n, 8)
  else (netAfter n e hz, 0)) := rfl
  have hev : mayS n.seats e hz = 0 → evOk e = true := fun h => (mayS_zero h).2.1
  have htot := total_spec n.routers
  have htotm := total_spec [mineN n e]
  have hm1 : many [mineN n e] 0 = (many [] (IntKind.i64.wrap (0 + IntKind.i64.wrap ((mineN n e).routes.length + (mineN n e).links.length)))) := rfl
  have hmle : sz (mineN n e) ≤ 1000000 → many [mineN n e] 0 = (sz (mineN n e) : Int) := by
    intro hle
    have := many_sum [mineN n e] 0 (by simp [sumR]; omega)
    simpa [sumR] using this
  clear hm1
  generalize netAfter n e hz = NA at *
  generalize happensF n e hz = RES at *
  generalize applyR (mineN n e) e = AR at *
  generalize nextS n.seats e hz = NX at *
  generalize bsI (cmpT e.router) n.routers = i at *
  refine FSpec.of_o (q := [(1, .m [.p [], .p [], .p [], .p [], .p [], .p [], .p []]), (4, .m [.p [], .p [], .p [], .p [], .p [], .p [], .e [29, 31], .p [], .p [], .p [], .p []]), (12, .m [.p [], .p [], .p [], .p [], .p [], .e [62], .p [0], .e [64], .p [], .p [0, 1], .p [0, 1], .p [0, 1], .p [], .p [0, 1], .p [0, 1], .p [0, 1]]), (15, .m [.p [1, 2], .p [1], .p [1], .p [1], .p [1], .p [1], .p [1], .p [], .e [85], .e [83, 84, 86]]), (16, .m [.p [], .p [], .p [], .p [], .p [], .p [], .p []]), (17, .m [.p [1], .p [], .p [], .p [], .p [], .p [], .p [], .p [], .e [105, 106, 107], .p [], .p [], .p [2], .p [], .p [], .p [], .e [113, 109]])]) Tryz.func127 (by kernel_rfl) rfl Tryz.ntmps127 Tryz.results127 hP (by kernel_rfl) (by simp) (by first | rfl | simp) ?_
  simp -implicitDefEqProofs
  first | refine CallK.same (h1) rfl rfl ?_ | refine CallQ.same (h1) rfl rfl ?_ | refine CallQG.same _ (h1) rfl ?_ | refine CallG.same _ (h1) rfl ?_ | refine CallK.pv (h1) rfl rfl ?_
  rw [if_neg (by simp [a1])] at hx
  rw [if_neg (by simp [b1]), if_neg d3] at hx
  simp -implicitDefEqProofs [a1]
  have he := hev a1
  refine CallK.fz [1] h2 rfl (by simp) rfl ?_
  simp -implicitDefEqProofs [hf]
  have hg := hnw he hf
  generalize mineN n e = M at *
  refine CallK.v0 h4 rfl (by simp [hg]) rfl ?_
  simp -implicitDefEqProofs [b1]
  obtain ⟨c1, c2, c3⟩ := hma a1 b1
  have d1 := hmle (by omega)
  have d2 : sz M = 0 := by rw [hg]; rfl
  refine CallK.fz [1] htot rfl (by simp) rfl ?_
  simp -implicitDefEqProofs
  refine CallK.fz [5] (total0_spec e.router false) rfl (by simp) rfl ?_
  have w1 : IntKind.i64.wrap (many n.routers 0) = (sumR n.routers : Int) - sz M := by rw [hmn.1, wrapS (by omega) (by omega)]; omega
  have w2 : IntKind.i64.wrap ((sumR n.routers : Int) - sz M + AR.1.routes.length) = (sumR n.routers : Int) - sz M + AR.1.routes.length := wrapS (by unfold sz at *; omega) (by unfold sz at *; omega)
  have w3 : IntKind.i64.wrap ((sumR n.routers : Int) - sz M + AR.1.routes.length + AR.1.links.length) = many NA.routers 0 := by rw [wrapS (by unfold sz at *; omega) (by unfold sz at *; omega), c1]; unfold sz; omega
  simp -implicitDefEqProofs [w1, w2, w3, d3]
  have hgi : NA.routers[i]? = some AR.1 := by rw [hins, List.getElem?_append_right (by simp; omega)]; simp [Nat.min_eq_left hil]
  have hlt : i < NA.routers.length := (List.getElem?_eq_some_iff.1 hgi).1
  have hil2 := netOk_len hok
  have hi := insRouter_spec (n.routers.map Router.iv) AR.1.iv i (by simpa using hil) (by simp; omega)
  have hrow : NA.routers.map Router.iv = (n.routers.map Router.iv).take i ++ AR.1.iv :: (n.routers.map Router.iv).drop i := by
    rw [hins, List.map_append, List.map_cons, List.map_take, List.map_drop]
  rw [← hrow] at hi
  have hmod := mod_same Router.iv NA.routers i AR.1 hgi (fun x => AR.1.iv ++ x.drop 4) (fun x => by simp)
  have hn0 := hns0 a1
  subst hn0
  subst hx
  refine CallO.mk [] [1, 6] hi (by simp) rfl (by simp) (by simp) (by simp) ?_
  simp -implicitDefEqProofs [hlt]
  first | refine CallK.same (h5) rfl rfl ?_ | refine CallQ.same (h5) rfl rfl ?_ | refine CallQG.same _ (h5) rfl ?_ | refine CallG.same _ (h5) rfl ?_ | refine CallK.pv (h5) rfl rfl ?_
  simp -implicitDefEqProofs
  refine EndO.ret [] [0, 1, 7] (.int .i64 0) (by simp) ?_
  simp -implicitDefEqProofs at hmod
  rw [hns]
  simp -implicitDefEqProofs [hmod]
end Go.Am


set_option linter.unusedVariables false
set_option linter.unusedSimpArgs false
set_option pp.deepTerms false
set_option pp.deepTerms.threshold 40
namespace Go.Am
open Go.Proofs

theorem happensF_keep {n : Net} {e : Ev} {hz : Int} (h : ¬ (happensF n e hz).2 = 0) : (happensF n e hz).1 = n := by
  unfold happensF at h ⊢
  repeat' split
  all_goals first
    | rfl
    | skip
  rename_i h1 h2 h3
  rw [if_neg h1, if_neg h2, if_neg h3] at h
  exact absurd rfl h
theorem odd_spec (w : Int) : FSpec Tryz.prog 129 [.int .i64 w] [] (.bool (w == 2 || w == 1)) [] := by
  refine FSpec.of_flat (q := []) Tryz.func129 (by kernel_rfl) rfl Tryz.ntmps129 Tryz.results129 hP (by kernel_rfl) (by simp) (by first | rfl | simp) ?_
  simp -implicitDefEqProofs
theorem sizeNo_spec (n : Net) : FSpec Tryz.prog 90 [n.av] [] (.tup [.int .i64 (sizeN n), .int .i64 (if netOk n then 0 else 2)]) [] := by
  have h1 := checkN_spec n
  have h2 := total_spec n.routers
  refine FSpec.of_z (q := []) Tryz.func90 (by kernel_rfl) rfl Tryz.ntmps90 Tryz.results90 hP (by kernel_rfl) (by simp) (by first | rfl | simp) ?_
  simp -implicitDefEqProofs
  first | refine CallK.same (h1) rfl rfl ?_ | refine CallQ.same (h1) rfl rfl ?_ | refine CallQG.same _ (h1) rfl ?_ | refine CallG.same _ (h1) rfl ?_ | refine CallK.pv (h1) rfl rfl ?_
  simp -implicitDefEqProofs
  unfold sizeN
  cases hn : netOk n with
  | false =>
    simp -implicitDefEqProofs
    refine EndZ.ret [] (.tup [.int .i64 0, .int .i64 2]) (by simp) ?_
    simp
  | true =>
    simp -implicitDefEqProofs
    first | refine CallK.same (h2) rfl rfl ?_ | refine CallQ.same (h2) rfl rfl ?_ | refine CallQG.same _ (h2) rfl ?_ | refine CallG.same _ (h2) rfl ?_ | refine CallK.pv (h2) rfl rfl ?_
    simp -implicitDefEqProofs
    refine EndZ.ret [] (.tup [.int .i64 (many n.routers 0), .int .i64 0]) (by simp) ?_
    simp
set_option maxRecDepth 8000 in
set_option maxHeartbeats 2000000 in
theorem applyNo_spec (n : Net) (e : Ev) (hz : Int) (hsq : 0 ≤ e.seq) :
    FSpec Tryz.prog 92 [n.av, e.av, .int .i64 hz] [] (.tup [(applyN n e hz).1.av, .int .i64 (applyN n e hz).2]) [] := by
  have h1 := checkN_spec n
  refine FSpec.of_z (q := []) Tryz.func92 (by kernel_rfl) rfl Tryz.ntmps92 Tryz.results92 hP (by kernel_rfl) (by simp) (by first | rfl | simp) ?_
  simp -implicitDefEqProofs
  first | refine CallK.same (h1) rfl rfl ?_ | refine CallQ.same (h1) rfl rfl ?_ | refine CallQG.same _ (h1) rfl ?_ | refine CallG.same _ (h1) rfl ?_ | refine CallK.pv (h1) rfl rfl ?_
  simp -implicitDefEqProofs
  unfold applyN
  cases hn : netOk n with
  | false =>
    simp -implicitDefEqProofs
    refine EndZ.ret [] (.tup [.agg [.im (.sc (.slice none 0 0)), .im (.sc (.slice none 0 0))], .int .i64 2]) (by simp) ?_
    simp -implicitDefEqProofs
  | true =>
    have h2 := ownN_spec n hn
    have hU := happenU_spec n e hz hn hsq
    have hI := happenI_spec n e hz hn hsq
    generalize happensF n e hz = RES at *
    have ho := odd_spec RES.2
    simp -implicitDefEqProofs
    refine CallK.outs [] h2 rfl (by simp) (by simp [AV.flat]) ?_
    simp -implicitDefEqProofs
    by_cases hc : bsF (cmpT e.router) n.routers = false ∧ RES.2 = 0
    · refine CallO.mk [] [4, 3] (hI hc.2 hc.1) (by simp) rfl (by simp) (by simp) (by simp) ?_
      simp -implicitDefEqProofs
      first | refine CallK.same (ho) rfl rfl ?_ | refine CallQ.same (ho) rfl rfl ?_ | refine CallQG.same _ (ho) rfl ?_ | refine CallG.same _ (ho) rfl ?_ | refine CallK.pv (ho) rfl rfl ?_
      simp -implicitDefEqProofs [hc.2]
      refine EndZ.ret [5] (.tup [.agg [.im (.sl 4 (RES.1.seats.map Seat.iv)), .row 5], .int .i64 0]) (by simp [hc.2]) ?_
      simp -implicitDefEqProofs [hc.2]
    · refine CallO.mk [] [4, 3] (hU fun hf h0 => hc ⟨hf, h0⟩) (by simp) rfl (by simp) (by simp) (by simp) ?_
      simp -implicitDefEqProofs
      first | refine CallK.same (ho) rfl rfl ?_ | refine CallQ.same (ho) rfl rfl ?_ | refine CallQG.same _ (ho) rfl ?_ | refine CallG.same _ (ho) rfl ?_ | refine CallK.pv (ho) rfl rfl ?_
      simp -implicitDefEqProofs
      refine ⟨fun h => ?_, fun b1 b2 => ?_⟩
      · refine EndZ.ret [] (.tup [.agg [.im (.sc (.slice none 0 0)), .im (.sc (.slice none 0 0))], .int .i64 RES.2]) (by simp) ?_
        simp -implicitDefEqProofs [h]
      · refine EndZ.ret [3] (.tup [.agg [.im (.sl 4 (RES.1.seats.map Seat.iv)), .row 3], .int .i64 RES.2]) (by simp) ?_
        simp -implicitDefEqProofs [b1, b2]
set_option maxRecDepth 8000 in
set_option maxHeartbeats 2000000 in
theorem allNo_spec (n : Net) (l : List Ev) (hz : Int) (hew : ∀ e ∈ l, 0 ≤ e.seq) :
    FSpec Tryz.prog 88 [n.av, .im (.sl 12 (l.map Ev.iv)), .int .i64 hz] [] (.tup [(allN n l hz).1.av, .int .i64 (allN n l hz).2.1, .int .i64 (allN n l hz).2.2]) [] := by
  refine FSpec.bd (enters_of Tryz.func88 (by kernel_rfl) rfl) fun hbd => ?_
  have hl : l.length ≤ 9223372036854775807 := by simp [maxLen] at hbd; exact hbd.2
  clear hbd
  have h1 := checkN_spec n
  refine FSpec.of_z (q := []) Tryz.func88 (by kernel_rfl) rfl Tryz.ntmps88 Tryz.results88 hP (by kernel_rfl) (by simp) (by first | rfl | simp) ?_
  simp -implicitDefEqProofs
  first | refine CallK.same (h1) rfl rfl ?_ | refine CallQ.same (h1) rfl rfl ?_ | refine CallQG.same _ (h1) rfl ?_ | refine CallG.same _ (h1) rfl ?_ | refine CallK.pv (h1) rfl rfl ?_
  simp -implicitDefEqProofs
  unfold allN
  cases hn : netOk n with
  | false =>
    simp -implicitDefEqProofs
    refine EndZ.ret [] (.tup [.agg [.im (.sc (.slice none 0 0)), .im (.sc (.slice none 0 0))], .int .i64 0, .int .i64 2]) (by simp) ?_
    simp -implicitDefEqProofs
  | true =>
    have h2 := ownN_spec n hn
    simp -implicitDefEqProofs
    refine CallK.outs [] h2 rfl (by simp) (by simp [AV.flat]) ?_
    simp -implicitDefEqProofs
    generalize hRES : allGo hz l n 0 = RES at *
    refine LoopK.os (fun g : Nat × Net => [(1, .im (.sl 12 (l.map Ev.iv))), (2, .int .i64 hz), (6, .ptr 0 0), (10, .ptr 1 0), (24, .im (.sl 12 (l.map Ev.iv))), (25, .int .i64 l.length), (26, .int .i64 g.1)])
      (fun g => [.box 25 [.im (.sc (.slice none 0 0)), .im (.sc (.slice none 0 0))], webO g.2 2, .row 85 4 (g.2.routers.map Router.iv)])
      (fun g => g.1 ≤ l.length ∧ netOk g.2 = true ∧ allGo hz (l.drop g.1) g.2 g.1 = RES) (fun g => l.length - g.1) (0, n) [1, 3, 2] ⟨Nat.zero_le _, hn, by simpa using hRES⟩ (by simp) ?_
    rintro ⟨k, N⟩ ⟨hk, hNo, hR⟩
    simp only at hk hNo hR
    by_cases hlt : k < l.length
    · have e1 : IntKind.i64.wrap (k + 1) = (k + 1 : Nat) := wrap64 (by omega) (by omega)
      rw [List.drop_eq_getElem_cons hlt, allGo] at hR
      have hem := hew l[k] (List.getElem_mem _)
      generalize hE : l[k] = E at *
      have hU := happenU_spec N E hz hNo hem
      have hI := happenI_spec N E hz hNo hem
      have hok2 := happensF_ok (e := E) (hz := hz) hNo
      have hkeep := happensF_keep (n := N) (e := E) (hz := hz)
      generalize happensF N E hz = HS at *
      simp -implicitDefEqProofs [hlt, hE]
      by_cases hc : bsF (cmpT E.router) N.routers = false ∧ HS.2 = 0
      · refine CallO.mk [] [1, 2] (hI hc.2 hc.1) (by simp) rfl (by simp) (by simp) (by simp) ?_
        simp -implicitDefEqProofs [hc.2]
        rw [if_pos hc.2] at hR
        refine Again.os (k + 1, HS.1) [0, 1, 4] ⟨hlt, hok2, by simpa using hR⟩ (by show l.length - (k + 1) < l.length - k; omega) ?_
        simp -implicitDefEqProofs [e1]
      · refine CallO.mk [] [1, 2] (hU fun hf h0 => hc ⟨hf, h0⟩) (by simp) rfl (by simp) (by simp) (by simp) ?_
        simp -implicitDefEqProofs
        refine ⟨fun h => ?_, fun h => ?_⟩
        · rw [if_neg h] at hR
          refine EndZ.ret [2] (.tup [.agg [.im (.sl 4 (HS.1.seats.map Seat.iv)), .row 2], .int .i64 k, .int .i64 HS.2]) (by simp) ?_
          simp -implicitDefEqProofs [← hR, hkeep h]
        · rw [if_pos h] at hR
          refine Again.os (k + 1, HS.1) [0, 1, 2] ⟨hlt, hok2, by simpa using hR⟩ (by show l.length - (k + 1) < l.length - k; omega) ?_
          simp -implicitDefEqProofs [e1]
    · have hkk : k = l.length := by omega
      subst hkk
      rw [List.drop_length, allGo] at hR
      simp -implicitDefEqProofs
      refine EndZ.ret [2] (.tup [.agg [.im (.sl 4 (N.seats.map Seat.iv)), .row 2], .int .i64 l.length, .int .i64 0]) (by simp) ?_
      simp -implicitDefEqProofs [← hR]
end Go.Am


set_option linter.unusedVariables false
set_option linter.unusedSimpArgs false
set_option pp.deepTerms false
set_option pp.deepTerms.threshold 40
namespace Go.Am
open Go.Proofs

@[simp] def pastO (p : Past) : AObj := .box 28 [.im (.sl 4 (p.base.seats.map Seat.iv)), .im (.sl 4 (p.base.routers.map Router.iv)), .int .i64 p.hz, .im (.sl 12 (p.evs.map Ev.iv))]
@[simp] def bookO (p : Past) (now : Net) (w : Int) (k : Nat) : AObj := .box 98 [.im (.sl 4 (p.base.seats.map Seat.iv)), .im (.sl 4 (p.base.routers.map Router.iv)), .int .i64 p.hz, .row k, .im (.sl 4 (now.seats.map Seat.iv)), .im (.sl 4 (now.routers.map Router.iv)), .int .i64 w]
@[simp] def evsO (l : List Ev) : AObj := .row 39 12 (l.map Ev.iv)
def lateI : List Seat → Int → Int → Int
  | [], _, _ => -1
  | s :: l, h, k => if h < s.time then k else lateI l h (k + 1)
theorem lateI_any : ∀ (l : List Seat) (h k : Int), 0 ≤ k → (0 ≤ lateI l h k ↔ (l.any fun s => decide (h < s.time)) = true)
  | [], h, k, _ => by simp [lateI]
  | s :: l, h, k, hk => by
    rw [lateI]
    split
    · rename_i h1
      simp [h1, hk]
    · rename_i h1
      rw [lateI_any l h (k + 1) (by omega)]
      simp [h1]
theorem late1_spec (p : Past) (s : Seat) : FSpec Tryz.prog 87 [s.av, .ptr 0 0] [pastO p] (.bool (decide (p.hz < s.time))) [pastO p] := by
  refine FSpec.of_o (q := []) Tryz.func87 (by kernel_rfl) rfl Tryz.ntmps87 Tryz.results87 hP (by kernel_rfl) (by simp) (by first | rfl | simp) ?_
  simp
  refine EndO.ret [] [0] _ rfl ?_
  simp
theorem lateI_spec (p : Past) (l : List Seat) (hl : l.length ≤ 9223372036854775807) :
    FSpec Tryz.prog 125 [.im (.sl 4 (l.map Seat.iv)), .fn 87 [.ptr 0 0]] [pastO p] (.int .i64 (lateI l p.hz 0)) [pastO p] := by
  refine FSpec.of_o (q := []) Tryz.func125 (by kernel_rfl) rfl Tryz.ntmps125 Tryz.results125 hP (by kernel_rfl) (by simp) (by first | rfl | simp) ?_
  simp
  refine LoopK.os (fun k : Nat => [(0, .im (.sl 4 (l.map Seat.iv))), (1, .fn 87 [.ptr 0 0]), (7, .int .i64 l.length), (8, .int .i64 k)])
    (fun _ => [pastO p])
    (fun k => k ≤ l.length ∧ lateI (l.drop k) p.hz k = lateI l p.hz 0) (fun k => l.length - k) 0 [0] ⟨Nat.zero_le _, by simp⟩ (by simp) ?_
  rintro k ⟨hk, hR⟩
  by_cases hlt : k < l.length
  · have e1 : IntKind.i64.wrap (k + 1) = (k + 1 : Nat) := wrap64 (by omega) (by omega)
    rw [List.drop_eq_getElem_cons hlt, lateI] at hR
    simp -implicitDefEqProofs [hlt, e1]
    refine CallO.mk [] [0] (late1_spec p l[k]) (by simp) rfl (by simp) (by simp) (by simp) ?_
    simp -implicitDefEqProofs
    refine ⟨fun h => ?_, fun h => ?_⟩
    · rw [if_pos h] at hR
      refine EndO.ret [] [0] _ rfl ?_
      simp [← hR]
    · rw [if_neg (by omega)] at hR
      refine Again.os (k + 1) [0] ⟨hlt, by simpa using hR⟩ (by omega) ?_
      simp [e1]
  · have hkk : k = l.length := by omega
    subst hkk
    rw [List.drop_length, lateI] at hR
    simp
    refine EndO.ret [] [0] _ rfl ?_
    simp [← hR]
theorem late_spec (p : Past) (l : List Seat) :
    FSpec Tryz.prog 86 [.im (.sl 4 (l.map Seat.iv)), .fn 87 [.ptr 0 0]] [pastO p] (.bool (l.any fun s => decide (p.hz < s.time))) [pastO p] := by
  refine FSpec.bd (enters_of Tryz.func86 (by kernel_rfl) rfl) fun hbd => ?_
  have hl : l.length ≤ 9223372036854775807 := by simp [maxLen] at hbd; exact hbd
  refine FSpec.of_o (q := []) Tryz.func86 (by kernel_rfl) rfl Tryz.ntmps86 Tryz.results86 hP (by kernel_rfl) (by simp) (by first | rfl | simp) ?_
  simp
  refine CallO.mk [] [0] (lateI_spec p l hl) (by simp) rfl (by simp) (by simp) (by simp) ?_
  have hb := lateI_any l p.hz 0 (Int.le_refl _)
  have hb' : decide (0 ≤ lateI l p.hz 0) = (l.any fun s => decide (p.hz < s.time)) := by
    cases h : (l.any fun s => decide (p.hz < s.time)) <;> simp [h] at hb ⊢ <;> omega
  rw [← hb']
  simp -implicitDefEqProofs
  refine EndO.ret [] [0] _ rfl ?_
  simp
theorem grows_spec (e : Ev) : FSpec Tryz.prog 91 [e.av] [] (.bool (e.kind == 3 || e.kind == 5)) [] := by
  refine FSpec.of_flat (q := []) Tryz.func91 (by kernel_rfl) rfl Tryz.ntmps91 Tryz.results91 hP (by kernel_rfl) (by simp) (by first | rfl | simp) ?_
  simp -implicitDefEqProofs
set_option maxRecDepth 8000 in
theorem ownP_spec (p : Past) (h : netOk p.base = true) (hl : p.evs.length ≤ 4096) : FSpec Tryz.prog 89 [p.av] [] (.agg [.im (.sl 4 (p.base.seats.map Seat.iv)), .im (.sl 4 (p.base.routers.map Router.iv)), .int .i64 p.hz, .row 0]) [evsO p.evs] := by
  have h1 := ownN_spec p.base h
  have h2 := cloEvent_spec (p.evs.map Ev.iv) (by simpa using hl)
  refine FSpec.of_o (q := [(1, .m [.p [], .p [], .e [4], .p [0, 2], .p [0, 2], .p [0], .p [0], .e [9]])]) Tryz.func89 (by kernel_rfl) rfl Tryz.ntmps89 Tryz.results89 hP (by kernel_rfl) (by simp) (by first | rfl | simp) ?_
  simp -implicitDefEqProofs
  refine CallK.outs [] h1 rfl (by simp) (by simp [AV.flat]) ?_
  simp -implicitDefEqProofs
  refine CallK.outs [] h2 rfl (by simp) (by simp [AV.flat]) ?_
  simp -implicitDefEqProofs
  refine EndO.ret [2] [3] (.agg [.im (.sl 4 (p.base.seats.map Seat.iv)), .row 2, .int .i64 p.hz, .row 3]) (by simp) ?_
  simp -implicitDefEqProofs
def okP (p : Past) : Bool := decide (-1 ≤ p.hz) && decide (p.hz ≤ 1099511627776) && decide (p.evs.length ≤ 1024) && !(p.base.seats.any fun s => decide (p.hz < s.time)) && decide ((allN p.base p.evs p.hz).2.2 = 0) && decide (weightF p ≤ 1024)
def nowP (p : Past) : Net := (allN p.base p.evs p.hz).1
set_option maxRecDepth 8000 in
set_option maxHeartbeats 2000000 in
theorem openY_spec (p : Past) (hew : ∀ e ∈ p.evs, 0 ≤ e.seq) (hok : okP p = true) :
    FSpec Tryz.prog 50 [p.av] [] (.tup [.ptr 0 0, .int .i64 0]) [bookO p (nowP p) (weightF p) 1, evsO p.evs] := by
  have h1 := late_spec p p.base.seats
  have h2 := allNo_spec p.base p.evs p.hz hew
  have h3 := sizeNo_spec p.base
  have hb := sizeN_bd p.base
  unfold nowP
  unfold okP at hok
  simp only [Bool.and_eq_true, decide_eq_true_eq, Bool.not_eq_true'] at hok
  obtain ⟨⟨⟨⟨⟨k1, k2⟩, k3⟩, k4⟩, k5⟩, k6⟩ := hok
  have hn : netOk p.base = true := by
    cases hn : netOk p.base with
    | true => rfl
    | false => unfold allN at k5; rw [if_pos hn] at k5; cases k5
  have h4 := ownP_spec p hn (by omega)
  rw [k4] at h1
  rw [k5] at h2
  generalize allN p.base p.evs p.hz = RES at *
  have j1 : ¬ p.hz < -1 := by omega
  have j2 : ¬ 1099511627776 < p.hz := by omega
  have j3 : ¬ 1024 < (p.evs.length : Int) := by omega
  refine FSpec.of_o (q := [(8, .m [.p [], .e [42], .p [0]])]) Tryz.func50 (by kernel_rfl) rfl Tryz.ntmps50 Tryz.results50 hP (by kernel_rfl) (by simp) (by first | rfl | simp) ?_
  simp -implicitDefEqProofs [j1, j2, j3]
  refine CallO.mk [] [0] h1 (by simp) rfl (by simp) (by simp) (by simp) ?_
  simp -implicitDefEqProofs
  first | refine CallK.same (h2) rfl rfl ?_ | refine CallQ.same (h2) rfl rfl ?_ | refine CallQG.same _ (h2) rfl ?_ | refine CallG.same _ (h2) rfl ?_ | refine CallK.pv (h2) rfl rfl ?_
  simp -implicitDefEqProofs
  refine CallK.outs [] h4 rfl (by simp) (by simp [AV.flat]) ?_
  simp -implicitDefEqProofs
  first | refine CallK.same (h3) rfl rfl ?_ | refine CallQ.same (h3) rfl rfl ?_ | refine CallQG.same _ (h3) rfl ?_ | refine CallG.same _ (h3) rfl ?_ | refine CallK.pv (h3) rfl rfl ?_
  simp -implicitDefEqProofs
  have hw : weightF p = sizeN p.base + addsE p.evs := rfl
  generalize sizeN p.base = z at *
  refine LoopK.os (fun k : Nat => [(7, .ptr 0 0), (57, .im (.sl 12 (p.evs.map Ev.iv))), (58, .int .i64 p.evs.length), (59, .int .i64 k)])
    (fun k => [bookO p RES.1 (z + addsE (p.evs.take k)) 1, evsO p.evs])
    (fun k => k ≤ p.evs.length) (fun k => p.evs.length - k) 0 [3, 2] (Nat.zero_le _) (by simp [addsE]) ?_
  intro k hk
  by_cases hlt : k < p.evs.length
  · have e1 : IntKind.i64.wrap (k + 1) = (k + 1 : Nat) := wrap64 (by omega) (by omega)
    have ht := addsE_take p.evs k hlt
    have hn := addsE_len (p.evs.take k)
    rw [List.length_take] at hn
    have e2 : IntKind.i64.wrap (z + (addsE (p.evs.take k) : Int) + 1) = z + (addsE (p.evs.take k) : Int) + 1 := wrap64 (by omega) (by omega)
    obtain ⟨E, hE⟩ : ∃ E, p.evs[k] = E := ⟨_, rfl⟩
    rw [hE] at ht
    have hg := grows_spec E
    simp -implicitDefEqProofs [hlt, hE]
    first | refine CallK.same (hg) rfl rfl ?_ | refine CallQ.same (hg) rfl rfl ?_ | refine CallQG.same _ (hg) rfl ?_ | refine CallG.same _ (hg) rfl ?_ | refine CallK.pv (hg) rfl rfl ?_
    simp -implicitDefEqProofs
    refine ⟨fun h => ?_, fun h1 h2 => ?_⟩
    · rw [if_pos h] at ht
      refine Again.os (k + 1) [0, 1] hlt (by omega) ?_
      simp -implicitDefEqProofs [e1, e2, ht]
      omega
    · rw [if_neg (by simp [h1, h2])] at ht
      refine Again.os (k + 1) [0, 1] hlt (by omega) ?_
      simp -implicitDefEqProofs [e1, ht]
  · have hkk : k = p.evs.length := by omega
    subst hkk
    have j4 : ¬ 1024 < z + (addsE p.evs : Int) := by omega
    simp -implicitDefEqProofs [j4]
    refine EndO.ret [] [0, 1] (.tup [.ptr 0 0, .int .i64 0]) (by simp) ?_
    simp -implicitDefEqProofs [hw]
set_option maxRecDepth 8000 in
set_option maxHeartbeats 2000000 in
theorem openN_spec (p : Past) (hew : ∀ e ∈ p.evs, 0 ≤ e.seq) (hok : okP p = false) :
    FSpec Tryz.prog 50 [p.av] [] (.tup [.im (.sc (.pointer none)), .int .i64 2]) [] := by
  have h1 := late_spec p p.base.seats
  have h2 := allNo_spec p.base p.evs p.hz hew
  have h3 := sizeNo_spec p.base
  have hb := sizeN_bd p.base
  unfold okP at hok
  obtain ⟨B, hB⟩ : ∃ B, (p.base.seats.any fun s => decide (p.hz < s.time)) = B := ⟨_, rfl⟩
  rw [hB] at h1 hok
  refine FSpec.of_z (q := [(8, .m [.p [], .e [42], .p [0]])]) Tryz.func50 (by kernel_rfl) rfl Tryz.ntmps50 Tryz.results50 hP (by kernel_rfl) (by simp) (by first | rfl | simp) ?_
  simp -implicitDefEqProofs
  refine ⟨fun h => ?_, fun j1 j2 j3 => ?_⟩
  · refine EndZ.ret [] (.tup [.im (.sc (.pointer none)), .int .i64 2]) (by simp) (by simp)
  refine CallO.mk [] [0] h1 (by simp) rfl (by simp) (by simp) (by simp) ?_
  simp -implicitDefEqProofs
  cases B with
  | true =>
    simp -implicitDefEqProofs
    refine EndZ.ret [] (.tup [.im (.sc (.pointer none)), .int .i64 2]) (by simp) (by simp)
  | false =>
  simp -implicitDefEqProofs
  first | refine CallK.same (h2) rfl rfl ?_ | refine CallQ.same (h2) rfl rfl ?_ | refine CallQG.same _ (h2) rfl ?_ | refine CallG.same _ (h2) rfl ?_ | refine CallK.pv (h2) rfl rfl ?_
  have hn0 : (allN p.base p.evs p.hz).2.2 = 0 → netOk p.base = true := fun h => by
    cases hn : netOk p.base with
    | true => rfl
    | false => unfold allN at h; rw [if_pos hn] at h; cases h
  have hk : (allN p.base p.evs p.hz).2.2 = 0 → ¬ weightF p ≤ 1024 := fun h h' => by
    simp [h, h'] at hok
    omega
  generalize allN p.base p.evs p.hz = RES at *
  simp -implicitDefEqProofs
  refine ⟨fun h => ?_, fun k5 => ?_⟩
  · refine EndZ.ret [] (.tup [.im (.sc (.pointer none)), .int .i64 2]) (by simp) (by simp)
  have hn := hn0 k5
  have k6 := hk k5
  have k3 : p.evs.length ≤ 1024 := by omega
  have h4 := ownP_spec p hn (by omega)
  refine CallK.outs [] h4 rfl (by simp) (by simp [AV.flat]) ?_
  simp -implicitDefEqProofs
  first | refine CallK.same (h3) rfl rfl ?_ | refine CallQ.same (h3) rfl rfl ?_ | refine CallQG.same _ (h3) rfl ?_ | refine CallG.same _ (h3) rfl ?_ | refine CallK.pv (h3) rfl rfl ?_
  simp -implicitDefEqProofs
  have hw : weightF p = sizeN p.base + addsE p.evs := rfl
  generalize sizeN p.base = z at *
  refine LoopK.os (fun k : Nat => [(7, .ptr 0 0), (57, .im (.sl 12 (p.evs.map Ev.iv))), (58, .int .i64 p.evs.length), (59, .int .i64 k)])
    (fun k => [bookO p RES.1 (z + addsE (p.evs.take k)) 1, evsO p.evs])
    (fun k => k ≤ p.evs.length) (fun k => p.evs.length - k) 0 [3, 2] (Nat.zero_le _) (by simp [addsE]) ?_
  intro k hk
  by_cases hlt : k < p.evs.length
  · have e1 : IntKind.i64.wrap (k + 1) = (k + 1 : Nat) := wrap64 (by omega) (by omega)
    have ht := addsE_take p.evs k hlt
    have hn := addsE_len (p.evs.take k)
    rw [List.length_take] at hn
    have e2 : IntKind.i64.wrap (z + (addsE (p.evs.take k) : Int) + 1) = z + (addsE (p.evs.take k) : Int) + 1 := wrap64 (by omega) (by omega)
    obtain ⟨E, hE⟩ : ∃ E, p.evs[k] = E := ⟨_, rfl⟩
    rw [hE] at ht
    have hg := grows_spec E
    simp -implicitDefEqProofs [hlt, hE]
    first | refine CallK.same (hg) rfl rfl ?_ | refine CallQ.same (hg) rfl rfl ?_ | refine CallQG.same _ (hg) rfl ?_ | refine CallG.same _ (hg) rfl ?_ | refine CallK.pv (hg) rfl rfl ?_
    simp -implicitDefEqProofs
    refine ⟨fun h => ?_, fun h1 h2 => ?_⟩
    · rw [if_pos h] at ht
      refine Again.os (k + 1) [0, 1] hlt (by omega) ?_
      simp -implicitDefEqProofs [e1, e2, ht]
      omega
    · rw [if_neg (by simp [h1, h2])] at ht
      refine Again.os (k + 1) [0, 1] hlt (by omega) ?_
      simp -implicitDefEqProofs [e1, ht]
  · have hkk : k = p.evs.length := by omega
    subst hkk
    have j4 : 1024 < z + (addsE p.evs : Int) := by omega
    simp -implicitDefEqProofs [j4]
    refine EndZ.ret [] (.tup [.im (.sc (.pointer none)), .int .i64 2]) (by simp) (by simp)
end Go.Am


set_option linter.unusedVariables false
set_option linter.unusedSimpArgs false
set_option pp.deepTerms false
set_option pp.deepTerms.threshold 40
namespace Go.Am
open Go.Proofs

theorem checkP_spec_ (p : Past) (hew : ∀ e ∈ p.evs, 0 ≤ e.seq) : FSpec Tryz.prog 22 [p.av] [] (.int .i64 (if okP p then 0 else 2)) [] := by
  refine FSpec.of_z (q := []) Tryz.func22 (by kernel_rfl) rfl Tryz.ntmps22 Tryz.results22 hP (by kernel_rfl) (by simp) (by first | rfl | simp) ?_
  simp -implicitDefEqProofs
  cases hok : okP p with
  | true =>
    refine CallK.outs [] (openY_spec p hew hok) rfl (by simp) (by simp [AV.flat]) ?_
    simp -implicitDefEqProofs
    refine EndZ.ret [] (.int .i64 0) (by simp) (by simp)
  | false =>
    first | refine CallK.same (openN_spec p hew hok) rfl rfl ?_ | refine CallQ.same (openN_spec p hew hok) rfl rfl ?_ | refine CallQG.same _ (openN_spec p hew hok) rfl ?_ | refine CallG.same _ (openN_spec p hew hok) rfl ?_ | refine CallK.pv (openN_spec p hew hok) rfl rfl ?_
    simp -implicitDefEqProofs
    refine EndZ.ret [] (.int .i64 2) (by simp) (by simp)
theorem makePo_spec : FSpec Tryz.prog 25 [] [] (⟨⟨[], []⟩, -1, []⟩ : Past).av [] := by
  refine FSpec.of_z (q := []) Tryz.func25 (by kernel_rfl) rfl Tryz.ntmps25 Tryz.results25 hP (by kernel_rfl) (by simp) (by first | rfl | simp) ?_
  simp -implicitDefEqProofs
  refine EndZ.ret [] (.agg [.im (.sc (.slice none 0 0)), .im (.sc (.slice none 0 0)), .int .i64 (-1), .im (.sc (.slice none 0 0))]) (by simp) ?_
  simp -implicitDefEqProofs
def net0 : Net := ⟨[], []⟩
def after (t : Int) (l : List Ev) : List Ev := l.filter fun e => decide (t < e.time)
theorem after_len (t : Int) (l : List Ev) : (after t l).length ≤ l.length := List.length_filter_le _ _
theorem after_take (t : Int) (l : List Ev) (k : Nat) (h : k < l.length) : after t (l.take (k + 1)) = if t < l[k].time then after t (l.take k) ++ [l[k]] else after t (l.take k) := by
  unfold after; rw [filter_take _ _ _ h]; simp
theorem after_nil (t : Int) : after t [] = [] := rfl
set_option maxRecDepth 8000 in
set_option maxHeartbeats 2000000 in
theorem uptoB_spec (p : Past) (now : Net) (w t : Int) (hl : p.evs.length ≤ 4096) :
    FSpec Tryz.prog 97 [.ptr 0 0, .int .i64 t] [bookO p now w 1, evsO p.evs] (.tup [.im (.sl 12 ((upto t p.evs).map Ev.iv)), .row 2]) [bookO p now w 1, evsO p.evs, evsO (after t p.evs)] := by
  refine FSpec.of_o (q := []) Tryz.func97 (by kernel_rfl) rfl Tryz.ntmps97 Tryz.results97 hP (by kernel_rfl) (by simp) (by first | rfl | simp) ?_
  simp -implicitDefEqProofs
  refine LoopK.nil (.sl 6 39 12) ?_
  simp -implicitDefEqProofs
  refine LoopK.nil (.sl 7 39 12) ?_
  simp -implicitDefEqProofs
  refine LoopK.os (fun k : Nat => [(1, .int .i64 t), (6, .row 2), (7, .row 3), (14, .row 1), (15, .int .i64 p.evs.length), (16, .int .i64 k)])
    (fun k => [bookO p now w 1, evsO p.evs, evsO (upto t (p.evs.take k)), evsO (after t (p.evs.take k))])
    (fun k => k ≤ p.evs.length) (fun k => p.evs.length - k) 0 [0, 1, 2, 3] (Nat.zero_le _) (by simp [upto_nil, after_nil]) ?_
  intro k hk
  by_cases hlt : k < p.evs.length
  · have e1 : IntKind.i64.wrap (k + 1) = (k + 1 : Nat) := wrap64 (by omega) (by omega)
    have g1 := upto_take t p.evs k hlt
    have b1 := upto_len t (p.evs.take k)
    have g2 := after_take t p.evs k hlt
    have b2 := after_len t (p.evs.take k)
    rw [List.length_take] at b1 b2
    obtain ⟨E, hE⟩ : ∃ E, p.evs[k] = E := ⟨_, rfl⟩
    rw [hE] at g1 g2
    simp -implicitDefEqProofs [hlt, hE]
    refine ⟨fun h => ⟨⟨by omega, by unfold maxLen; omega⟩, ?_⟩, fun h => ⟨⟨by omega, by unfold maxLen; omega⟩, ?_⟩⟩
    · rw [if_pos h] at g1
      rw [if_neg (by omega)] at g2
      refine Again.os (k + 1) [0, 1, 6, 3] hlt (by omega) ?_
      simp -implicitDefEqProofs [e1, g1, g2]
    · rw [if_neg (by omega)] at g1
      rw [if_pos (by omega)] at g2
      refine Again.os (k + 1) [0, 1, 2, 6] hlt (by omega) ?_
      simp -implicitDefEqProofs [e1, g1, g2]
  · have hkk : k = p.evs.length := by omega
    subst hkk
    simp -implicitDefEqProofs
    refine EndO.ret [2] [0, 1, 3] (.tup [.row 2, .row 3]) (by simp) ?_
    simp -implicitDefEqProofs
def askT (p : Past) (t : Int) : Int := if t < 0 ∨ 1099511627776 < t then 1 else if t < p.hz then 15 else 0
theorem atB_spec (p : Past) (now : Net) (w t : Int) (hb : ¬ askT p t = 0) :
    FSpec Tryz.prog 59 [.ptr 0 0, .int .i64 t] [bookO p now w 1, evsO p.evs] (.tup [.agg [.im (.sc (.slice none 0 0)), .im (.sc (.slice none 0 0))], .im (.sc (.slice none 0 0)), .int .i64 (askT p t)]) [bookO p now w 1, evsO p.evs] := by
  by_cases h1 : t < 0 ∨ 1099511627776 < t
  · have e : askT p t = 1 := by unfold askT; rw [if_pos h1]
    rw [e]
    rcases h1 with h1 | h1
    · refine FSpec.of_o (q := [(6, .m [.p [], .p [], .p [], .p [], .p [], .p [], .p [], .p [], .p [], .p [], .p [], .e [40, 41, 46], .p [], .p [], .p [2], .p [2], .a 0 1, .e [9, 48], .p []])]) Tryz.func59 (by kernel_rfl) rfl Tryz.ntmps59 Tryz.results59 hP (by kernel_rfl) (by simp) (by first | rfl | simp) ?_
      simp -implicitDefEqProofs [h1]
      refine EndO.ret [] [0, 1] (.tup [.agg [.im (.sc (.slice none 0 0)), .im (.sc (.slice none 0 0))], .im (.sc (.slice none 0 0)), .int .i64 1]) (by simp) ?_
      simp -implicitDefEqProofs
    · have h0 : ¬ t < 0 := by omega
      refine FSpec.of_o (q := [(6, .m [.p [], .p [], .p [], .p [], .p [], .p [], .p [], .p [], .p [], .p [], .p [], .e [40, 41, 46], .p [], .p [], .p [2], .p [2], .a 0 1, .e [9, 48], .p []])]) Tryz.func59 (by kernel_rfl) rfl Tryz.ntmps59 Tryz.results59 hP (by kernel_rfl) (by simp) (by first | rfl | simp) ?_
      simp -implicitDefEqProofs [h1, h0]
      refine EndO.ret [] [0, 1] (.tup [.agg [.im (.sc (.slice none 0 0)), .im (.sc (.slice none 0 0))], .im (.sc (.slice none 0 0)), .int .i64 1]) (by simp) ?_
      simp -implicitDefEqProofs
  · by_cases h2 : t < p.hz
    · have e : askT p t = 15 := by unfold askT; rw [if_neg h1, if_pos h2]
      rw [e]
      have h3 : ¬ t < 0 := by omega
      have h4 : ¬ 1099511627776 < t := by omega
      refine FSpec.of_o (q := [(6, .m [.p [], .p [], .p [], .p [], .p [], .p [], .p [], .p [], .p [], .p [], .p [], .e [40, 41, 46], .p [], .p [], .p [2], .p [2], .a 0 1, .e [9, 48], .p []])]) Tryz.func59 (by kernel_rfl) rfl Tryz.ntmps59 Tryz.results59 hP (by kernel_rfl) (by simp) (by first | rfl | simp) ?_
      simp -implicitDefEqProofs [h3, h4, h2]
      refine EndO.ret [] [0, 1] (.tup [.agg [.im (.sc (.slice none 0 0)), .im (.sc (.slice none 0 0))], .im (.sc (.slice none 0 0)), .int .i64 15]) (by simp) ?_
      simp -implicitDefEqProofs
    · refine absurd ?_ hb
      unfold askT
      rw [if_neg h1, if_neg h2]
def thenW (p : Past) (t : Int) : Int := (allN p.base (upto t p.evs) p.hz).2.2
theorem atA_spec (p : Past) (now : Net) (w t : Int) (hew : ∀ e ∈ p.evs, 0 ≤ e.seq) (hl : p.evs.length ≤ 4096) (hb : askT p t = 0) :
    FSpec Tryz.prog 59 [.ptr 0 0, .int .i64 t] [bookO p now w 1, evsO p.evs] (.tup [(thenF p t).av, .row 2, .int .i64 (thenW p t)]) [bookO p now w 1, evsO p.evs, evsO (after t p.evs)] := by
  have h3 := allNo_spec p.base (upto t p.evs) p.hz (fun e he => hew e (List.mem_filter.1 he).1)
  have hu := uptoB_spec p now w t hl
  unfold thenF thenW
  generalize allN p.base (upto t p.evs) p.hz = RES at *
  unfold askT at hb
  by_cases h1 : t < 0 ∨ 1099511627776 < t
  · rw [if_pos h1] at hb
    cases hb
  rw [if_neg h1] at hb
  by_cases h2 : t < p.hz
  · rw [if_pos h2] at hb
    cases hb
  have g3 : ¬ t < 0 := by omega
  have g4 : ¬ 1099511627776 < t := by omega
  refine FSpec.of_o (q := [(6, .m [.p [], .p [], .p [], .p [], .p [], .p [], .p [], .p [], .p [], .p [], .p [], .e [40, 41, 46], .p [], .p [], .p [2], .p [2], .a 0 1, .e [9, 48], .p []])]) Tryz.func59 (by kernel_rfl) rfl Tryz.ntmps59 Tryz.results59 hP (by kernel_rfl) (by simp) (by first | rfl | simp) ?_
  simp -implicitDefEqProofs [g3, g4, h2]
  refine CallO.mk [] [0, 1] hu (by simp) rfl (by simp) (by simp) (by simp) ?_
  simp -implicitDefEqProofs
  first | refine CallK.same (h3) rfl rfl ?_ | refine CallQ.same (h3) rfl rfl ?_ | refine CallQG.same _ (h3) rfl ?_ | refine CallG.same _ (h3) rfl ?_ | refine CallK.pv (h3) rfl rfl ?_
  simp -implicitDefEqProofs
  refine EndO.ret [] [0, 1, 3] (.tup [RES.1.av, .row 3, .int .i64 RES.2.2]) (by simp) ?_
  simp -implicitDefEqProofs
theorem atP_spec (p : Past) (t : Int) (hew : ∀ e ∈ p.evs, 0 ≤ e.seq) : FSpec Tryz.prog 27 [p.av, .int .i64 t] []
    (.tup [(if okP p = true ∧ askT p t = 0 then thenF p t else net0).av, .int .i64 (if okP p then (if askT p t = 0 then thenW p t else askT p t) else 2)]) [] := by
  refine FSpec.of_z (q := []) Tryz.func27 (by kernel_rfl) rfl Tryz.ntmps27 Tryz.results27 hP (by kernel_rfl) (by simp) (by first | rfl | simp) ?_
  simp -implicitDefEqProofs
  cases hok : okP p with
  | true =>
    have hl : p.evs.length ≤ 4096 := by
      unfold okP at hok
      simp only [Bool.and_eq_true, decide_eq_true_eq] at hok
      omega
    refine CallK.outs [] (openY_spec p hew hok) rfl (by simp) (by simp [AV.flat]) ?_
    simp -implicitDefEqProofs
    by_cases hb : askT p t = 0
    · refine CallO.mk [] [2, 3] (atA_spec p (nowP p) (weightF p) t hew hl hb) (by simp) rfl (by simp) (by simp) (by simp) ?_
      simp -implicitDefEqProofs
      refine EndZ.ret [] (.tup [(thenF p t).av, .int .i64 (thenW p t)]) (by simp) (by simp [hb])
    · refine CallO.mk [] [2, 3] (atB_spec p (nowP p) (weightF p) t hb) (by simp) rfl (by simp) (by simp) (by simp) ?_
      simp -implicitDefEqProofs
      refine EndZ.ret [] (.tup [.agg [.im (.sc (.slice none 0 0)), .im (.sc (.slice none 0 0))], .int .i64 (askT p t)]) (by simp) (by simp [hb, net0])
  | false =>
    first | refine CallK.same (openN_spec p hew hok) rfl rfl ?_ | refine CallQ.same (openN_spec p hew hok) rfl rfl ?_ | refine CallQG.same _ (openN_spec p hew hok) rfl ?_ | refine CallG.same _ (openN_spec p hew hok) rfl ?_ | refine CallK.pv (openN_spec p hew hok) rfl rfl ?_
    simp -implicitDefEqProofs
    refine EndZ.ret [] (.tup [.agg [.im (.sc (.slice none 0 0)), .im (.sc (.slice none 0 0))], .int .i64 2]) (by simp) ?_
    simp [net0]
end Go.Am


set_option linter.unusedVariables false
set_option linter.unusedSimpArgs false
set_option pp.deepTerms false
set_option pp.deepTerms.threshold 40
namespace Go.Am
open Go.Proofs

def growsE (e : Ev) : Bool := e.kind == 3 || e.kind == 5
def addE (p : Past) (e : Ev) : Past := ⟨p.base, p.hz, p.evs ++ [e]⟩
theorem weight_add (p : Past) (e : Ev) : weightF (addE p e) = weightF p + if growsE e then 1 else 0 := by
  unfold weightF addE addsE growsE
  simp only [List.countP_append, List.countP_cons, List.countP_nil]
  split <;> omega
def fullP (p : Past) (e : Ev) : Bool := decide ((p.evs.length : Int) = 1024) || (growsE e && decide (weightF p = 1024))
def takeW (p : Past) (e : Ev) : Int := if ¬ (applyN (nowP p) e p.hz).2 = 0 then (applyN (nowP p) e p.hz).2 else if fullP p e then 8 else 0
theorem okP_len {p : Past} (h : okP p = true) : p.evs.length ≤ 1024 := by
  unfold okP at h
  simp only [Bool.and_eq_true, decide_eq_true_eq] at h
  omega
theorem okP_weight {p : Past} (h : okP p = true) : weightF p ≤ 1024 := by
  unfold okP at h
  simp only [Bool.and_eq_true, decide_eq_true_eq] at h
  omega
set_option maxRecDepth 8000 in
set_option maxHeartbeats 2000000 in
theorem takeB0_spec (p : Past) (e : Ev) (hsq : 0 ≤ e.seq) (h0 : ¬ takeW p e = 0) :
    FSpec Tryz.prog 51 [.ptr 0 0, e.av] [bookO p (nowP p) (weightF p) 1, evsO p.evs] (.int .i64 (takeW p e)) [bookO p (nowP p) (weightF p) 1, evsO p.evs] := by
  have h1 := applyNo_spec (nowP p) e p.hz hsq
  have h2 := grows_spec e
  have hW : takeW p e = if ¬ (applyN (nowP p) e p.hz).2 = 0 then (applyN (nowP p) e p.hz).2 else if fullP p e then 8 else 0 := rfl
  have hf : fullP p e = (decide ((p.evs.length : Int) = 1024) || (growsE e && decide (weightF p = 1024))) := rfl
  generalize takeW p e = W at *
  generalize applyN (nowP p) e p.hz = A at *
  rw [show (e.kind == 3 || e.kind == 5) = growsE e from rfl] at h2
  generalize growsE e = G at *
  refine FSpec.of_o (q := [(1, .m [.p [], .p [], .p [], .p [], .p [], .p [], .p [], .p [], .p [], .p [], .e [12, 13, 18], .p [], .p [], .p [2], .a 0 1, .e [5, 20]]), (7, .m [.p [1, 2], .p [1, 2, 3], .p [1, 2], .p [1], .p [1], .p [1], .p [1], .p [1], .p [1], .p [1], .p [1], .p [], .e [62], .e [61, 63], .p [], .p [], .e [66, 53]])]) Tryz.func51 (by kernel_rfl) rfl Tryz.ntmps51 Tryz.results51 hP (by kernel_rfl) (by simp) (by first | rfl | simp) ?_
  simp -implicitDefEqProofs
  first | refine CallK.same (h1) rfl rfl ?_ | refine CallQ.same (h1) rfl rfl ?_ | refine CallQG.same _ (h1) rfl ?_ | refine CallG.same _ (h1) rfl ?_ | refine CallK.pv (h1) rfl rfl ?_
  simp -implicitDefEqProofs
  refine ⟨fun h => ?_, fun b1 => ?_⟩
  · rw [if_pos h] at hW
    subst hW
    refine EndO.ret [] [0, 1] (.int .i64 A.2) (by simp) ?_
    simp -implicitDefEqProofs
  rw [if_neg (by simp [b1])] at hW
  have hfull : fullP p e = true := by
    cases h : fullP p e with
    | true => rfl
    | false => rw [h] at hW; exact absurd hW h0
  rw [if_pos hfull] at hW
  rw [hfull] at hf
  subst hW
  first | refine CallK.same (h2) rfl rfl ?_ | refine CallQ.same (h2) rfl rfl ?_ | refine CallQG.same _ (h2) rfl ?_ | refine CallG.same _ (h2) rfl ?_ | refine CallK.pv (h2) rfl rfl ?_
  simp -implicitDefEqProofs
  refine ⟨fun h => by cases G <;> simp [impB, h], fun h => ?_, fun h => ?_⟩
  · refine EndO.ret [] [0, 1] (.int .i64 8) (by simp) ?_
    simp -implicitDefEqProofs
  · intro h2
    exfalso
    cases G with
    | false => simp [h] at hf
    | true => simp [h, h2 rfl] at hf
set_option maxRecDepth 8000 in
set_option maxHeartbeats 2000000 in
theorem takeB1_spec (p : Past) (e : Ev) (hsq : 0 ≤ e.seq) (hok : okP p = true) (h0 : takeW p e = 0) :
    FSpec Tryz.prog 51 [.ptr 0 0, e.av] [bookO p (nowP p) (weightF p) 1, evsO p.evs] (.int .i64 0) [bookO (addE p e) (applyN (nowP p) e p.hz).1 (weightF (addE p e)) 2, evsO p.evs, evsO (addE p e).evs] := by
  have h1 := applyNo_spec (nowP p) e p.hz hsq
  have h2 := grows_spec e
  have hlen := okP_len hok
  have hwt := okP_weight hok
  have hwa := weight_add p e
  have hW : takeW p e = if ¬ (applyN (nowP p) e p.hz).2 = 0 then (applyN (nowP p) e p.hz).2 else if fullP p e then 8 else 0 := rfl
  have hf : fullP p e = (decide ((p.evs.length : Int) = 1024) || (growsE e && decide (weightF p = 1024))) := rfl
  rw [h0] at hW
  generalize applyN (nowP p) e p.hz = A at *
  rw [show (e.kind == 3 || e.kind == 5) = growsE e from rfl] at h2
  generalize growsE e = G at *
  have b1 : A.2 = 0 := by
    apply Classical.byContradiction
    intro h
    rw [if_pos h] at hW
    exact h hW.symm
  rw [if_neg (by simp [b1])] at hW
  have hfull : fullP p e = false := by
    cases h : fullP p e with
    | false => rfl
    | true => rw [h] at hW; cases hW
  rw [hfull] at hf
  have c1 : ¬ (p.evs.length : Int) = 1024 := by intro h; simp [h] at hf
  refine FSpec.of_o (q := [(1, .m [.p [], .p [], .p [], .p [], .p [], .p [], .p [], .p [], .p [], .p [], .e [12, 13, 18], .p [], .p [], .p [2], .a 0 1, .e [5, 20]]), (7, .m [.p [1, 2], .p [1, 2, 3], .p [1, 2], .p [1], .p [1], .p [1], .p [1], .p [1], .p [1], .p [1], .p [1], .p [], .e [62], .e [61, 63], .p [], .p [], .e [66, 53]])]) Tryz.func51 (by kernel_rfl) rfl Tryz.ntmps51 Tryz.results51 hP (by kernel_rfl) (by simp) (by first | rfl | simp) ?_
  simp -implicitDefEqProofs
  first | refine CallK.same (h1) rfl rfl ?_ | refine CallQ.same (h1) rfl rfl ?_ | refine CallQG.same _ (h1) rfl ?_ | refine CallG.same _ (h1) rfl ?_ | refine CallK.pv (h1) rfl rfl ?_
  simp -implicitDefEqProofs [b1]
  first | refine CallK.same (h2) rfl rfl ?_ | refine CallQ.same (h2) rfl rfl ?_ | refine CallQG.same _ (h2) rfl ?_ | refine CallG.same _ (h2) rfl ?_ | refine CallK.pv (h2) rfl rfl ?_
  simp -implicitDefEqProofs [c1, aCut, rowAt]
  have hsz := sizeN_bd p.base
  have hw0 : 0 ≤ weightF p := by unfold weightF; omega
  have e2 : IntKind.i64.wrap (weightF p + 1) = weightF p + 1 := wrap64 (by omega) (by omega)
  refine ⟨by cases G <;> simp [impB, c1], fun hg hw => ?_, fun hgw => ⟨⟨by unfold maxLen; omega, by omega⟩, ?_⟩⟩
  · exfalso
    simp [c1, hg, hw] at hf
  first | refine CallK.same (h2) rfl rfl ?_ | refine CallQ.same (h2) rfl rfl ?_ | refine CallQG.same _ (h2) rfl ?_ | refine CallG.same _ (h2) rfl ?_ | refine CallK.pv (h2) rfl rfl ?_
  simp -implicitDefEqProofs
  cases G with
  | true =>
    rw [if_pos rfl] at hwa
    simp -implicitDefEqProofs [e2]
    refine EndO.ret [] [0, 1, 5] (.int .i64 0) (by simp) ?_
    rw [hwa]
    simp -implicitDefEqProofs [addE]
    exact List.take_of_length_le (by simp)
  | false =>
    rw [if_neg (by simp)] at hwa
    simp -implicitDefEqProofs
    refine EndO.ret [] [0, 1, 5] (.int .i64 0) (by simp) ?_
    rw [hwa]
    simp -implicitDefEqProofs [addE]
    exact List.take_of_length_le (by simp)
def past0 : Past := ⟨⟨[], []⟩, 0, []⟩
def takeP (p : Past) (e : Ev) : Past × Int := if okP p = false ∨ takeW p e = 2 then (past0, 2) else if takeW p e = 0 then (addE p e, 0) else (p, takeW p e)
theorem takePo_spec (p : Past) (e : Ev) (hew : ∀ e ∈ p.evs, 0 ≤ e.seq) (hsq : 0 ≤ e.seq) : FSpec Tryz.prog 15 [p.av, e.av] [] (.tup [(takeP p e).1.av, .int .i64 (takeP p e).2]) [] := by
  refine FSpec.of_z (q := []) Tryz.func15 (by kernel_rfl) rfl Tryz.ntmps15 Tryz.results15 hP (by kernel_rfl) (by simp) (by first | rfl | simp) ?_
  simp -implicitDefEqProofs
  cases hok : okP p with
  | true =>
    refine CallK.outs [] (openY_spec p hew hok) rfl (by simp) (by simp [AV.flat]) ?_
    simp -implicitDefEqProofs
    by_cases h0 : takeW p e = 0
    · refine CallO.mk [] [3, 4] (takeB1_spec p e hsq hok h0) (by simp) rfl (by simp) (by simp) (by simp) ?_
      simp -implicitDefEqProofs
      have hx : takeP p e = (addE p e, 0) := by unfold takeP; rw [if_neg (by simp [hok, h0]), if_pos h0]
      rw [hx]
      refine EndZ.ret [5] (.tup [.agg [.im (.sl 4 ((addE p e).base.seats.map Seat.iv)), .im (.sl 4 ((addE p e).base.routers.map Router.iv)), .int .i64 (addE p e).hz, .row 5], .int .i64 0]) (by simp) ?_
      simp -implicitDefEqProofs
    · refine CallO.mk [] [3, 4] (takeB0_spec p e hsq h0) (by simp) rfl (by simp) (by simp) (by simp) ?_
      simp -implicitDefEqProofs
      refine ⟨fun h2 => ?_, fun h2 => ?_⟩
      · have hx : takeP p e = (past0, 2) := by unfold takeP; rw [if_pos (.inr h2)]
        rw [hx]
        refine EndZ.ret [] (.tup [.agg [.im (.sc (.slice none 0 0)), .im (.sc (.slice none 0 0)), .int .i64 0, .im (.sc (.slice none 0 0))], .int .i64 2]) (by simp [h2]) ?_
        simp -implicitDefEqProofs [past0]
      · have hx : takeP p e = (p, takeW p e) := by unfold takeP; rw [if_neg (by simp [hok, h2]), if_neg h0]
        rw [hx]
        refine EndZ.ret [4] (.tup [.agg [.im (.sl 4 (p.base.seats.map Seat.iv)), .im (.sl 4 (p.base.routers.map Router.iv)), .int .i64 p.hz, .row 4], .int .i64 (takeW p e)]) (by simp) ?_
        simp -implicitDefEqProofs
  | false =>
    have hx : takeP p e = (past0, 2) := by unfold takeP; rw [if_pos (.inl hok)]
    first | refine CallK.same (openN_spec p hew hok) rfl rfl ?_ | refine CallQ.same (openN_spec p hew hok) rfl rfl ?_ | refine CallQG.same _ (openN_spec p hew hok) rfl ?_ | refine CallG.same _ (openN_spec p hew hok) rfl ?_ | refine CallK.pv (openN_spec p hew hok) rfl rfl ?_
    simp -implicitDefEqProofs
    rw [hx]
    refine EndZ.ret [] (.tup [.agg [.im (.sc (.slice none 0 0)), .im (.sc (.slice none 0 0)), .int .i64 0, .im (.sc (.slice none 0 0))], .int .i64 2]) (by simp) ?_
    simp [past0]
end Go.Am


set_option linter.unusedVariables false
set_option linter.unusedSimpArgs false
set_option pp.deepTerms false
set_option pp.deepTerms.threshold 40
namespace Go.Am
open Go.Proofs

end Go.Am


set_option linter.unusedVariables false
set_option linter.unusedSimpArgs false
set_option pp.deepTerms false
set_option pp.deepTerms.threshold 40
namespace Go.Am
open Go.Proofs

end Go.Am


set_option linter.unusedVariables false
set_option linter.unusedSimpArgs false
set_option pp.deepTerms false
set_option pp.deepTerms.threshold 40
namespace Go.Proofs
def Tryz.sortInt64_ren : Go.Shelf.Ren := ⟨fun | 5 => 99 | 8 => 142 | 7 => 141 | 19 => 186 | 20 => 187 | 10 => 177 | 11 => 178 | 12 => 179 | 13 => 180 | 14 => 181 | 15 => 182 | 16 => 183 | 17 => 184 | 18 => 185 | 30 => 220 | 31 => 221 | 32 => 222 | 33 => 223 | 34 => 224 | 35 => 219 | 40 => 248 | n => n, fun | 23 => 57 | 25 => 2 | 3 => 3 | 32 => 155 | 22 => 57 | 0 => 0 | 44 => 239 | 46 => 30 | 4 => 4 | 36 => 232 | 35 => 231 | 41 => 128 | 5 => 5 | 9 => 9 | 53 => 277 | 57 => 281 | 63 => 297 | 64 => 298 | n => n, fun | n => n⟩
theorem Tryz.sortInt64 : SlLaysM.n5 Tryz.prog Tryz.sortInt64_ren := {
  mixed := by kernel_rfl,
  f5 := ⟨Tryz.f99.name, by decide, Tryz.func99.trans (congrArg some (by kernel_rfl))⟩,
  f7 := ⟨Tryz.f141.name, by decide, Tryz.func141.trans (congrArg some (by kernel_rfl))⟩,
  f8 := Tryz.func142.trans (congrArg some (by kernel_rfl)),
  f10 := ⟨Tryz.f177.name, by decide, Tryz.func177.trans (congrArg some (by kernel_rfl))⟩,
  f11 := ⟨Tryz.f178.name, by decide, Tryz.func178.trans (congrArg some (by kernel_rfl))⟩,
  f12 := ⟨Tryz.f179.name, by decide, Tryz.func179.trans (congrArg some (by kernel_rfl))⟩,
  f13 := ⟨Tryz.f180.name, by decide, Tryz.func180.trans (congrArg some (by kernel_rfl))⟩,
  f14 := ⟨Tryz.f181.name, by decide, Tryz.func181.trans (congrArg some (by kernel_rfl))⟩,
  f15 := ⟨Tryz.f182.name, by decide, Tryz.func182.trans (congrArg some (by kernel_rfl))⟩,
  f16 := ⟨Tryz.f183.name, by decide, Tryz.func183.trans (congrArg some (by kernel_rfl))⟩,
  f17 := ⟨Tryz.f184.name, by decide, Tryz.func184.trans (congrArg some (by kernel_rfl))⟩,
  f18 := ⟨Tryz.f185.name, by decide, Tryz.func185.trans (congrArg some (by kernel_rfl))⟩,
  f19 := Tryz.func186.trans (congrArg some (by kernel_rfl)),
  f20 := Tryz.func187.trans (congrArg some (by kernel_rfl)),
  f30 := ⟨Tryz.f220.name, by decide, Tryz.func220.trans (congrArg some (by kernel_rfl))⟩,
  f31 := Tryz.func221.trans (congrArg some (by kernel_rfl)),
  f32 := Tryz.func222.trans (congrArg some (by kernel_rfl)),
  f33 := ⟨Tryz.f223.name, by decide, Tryz.func223.trans (congrArg some (by kernel_rfl))⟩,
  f34 := ⟨Tryz.f224.name, by decide, Tryz.func224.trans (congrArg some (by kernel_rfl))⟩,
  f35 := ⟨Tryz.f219.name, by decide, Tryz.func219.trans (congrArg some (by kernel_rfl))⟩,
  f40 := ⟨Tryz.f248.name, by decide, Tryz.func248.trans (congrArg some (by kernel_rfl))⟩,
  t0 := Tryz.underlying0,
  a0 := Tryz.isAgg0,
  z0 := Tryz.sizeOf0,
  v0 := Tryz.zeroValue0,
  t3 := Tryz.underlying3,
  a3 := Tryz.isAgg3,
  z3 := Tryz.sizeOf3,
  v3 := Tryz.zeroValue3,
  t4 := Tryz.underlying4,
  a4 := Tryz.isAgg4,
  z4 := Tryz.sizeOf4,
  v4 := Tryz.zeroValue4,
  t5 := Tryz.underlying5,
  a5 := Tryz.isAgg5,
  z5 := Tryz.sizeOf5,
  v5 := Tryz.zeroValue5,
  t9 := Tryz.underlying9,
  a9 := Tryz.isAgg9,
  z9 := Tryz.sizeOf9,
  v9 := Tryz.zeroValue9,
  t22 := Tryz.underlying57,
  a22 := Tryz.isAgg57,
  z22 := Tryz.sizeOf57,
  v22 := Tryz.zeroValue57,
  t23 := Tryz.underlying57,
  a23 := Tryz.isAgg57,
  z23 := Tryz.sizeOf57,
  v23 := Tryz.zeroValue57,
  t25 := Tryz.underlying2,
  a25 := Tryz.isAgg2,
  z25 := Tryz.sizeOf2,
  v25 := Tryz.zeroValue2,
  t32 := Tryz.underlying155,
  a32 := Tryz.isAgg155,
  z32 := Tryz.sizeOf155,
  v32 := Tryz.zeroValue155,
  t35 := Tryz.underlying231,
  a35 := Tryz.isAgg231,
  z35 := Tryz.sizeOf231,
  v35 := Tryz.zeroValue231,
  t36 := Tryz.underlying232,
  a36 := Tryz.isAgg232,
  z36 := Tryz.sizeOf232,
  v36 := Tryz.zeroValue232,
  t41 := Tryz.underlying128,
  a41 := Tryz.isAgg128,
  z41 := Tryz.sizeOf128,
  v41 := Tryz.zeroValue128,
  t44 := Tryz.underlying239,
  a44 := Tryz.isAgg239,
  z44 := Tryz.sizeOf239,
  v44 := Tryz.zeroValue239,
  t46 := Tryz.underlying30,
  a46 := Tryz.isAgg30,
  z46 := Tryz.sizeOf30,
  v46 := Tryz.zeroValue30,
  t53 := Tryz.underlying277,
  a53 := Tryz.isAgg277,
  z53 := Tryz.sizeOf277,
  v53 := Tryz.zeroValue277,
  t57 := Tryz.underlying281,
  a57 := Tryz.isAgg281,
  z57 := Tryz.sizeOf281,
  v57 := Tryz.zeroValue281,
  t63 := Tryz.underlying297,
  a63 := Tryz.isAgg297,
  z63 := Tryz.sizeOf297,
  v63 := Tryz.zeroValue297,
  t64 := Tryz.underlying298,
  a64 := Tryz.isAgg298,
  z64 := Tryz.sizeOf298,
  v64 := Tryz.zeroValue298 }
end Go.Proofs
namespace Go.Am
open Go.Proofs

theorem sort64_spec (l : List Int) (h : l.length ≤ 1000000000) : FSpec Tryz.prog 99 [.row 0] [.row 2 1 (rowN l)] (.tup []) [.row 2 1 (rowN (sortI l))] :=
  sortInts Tryz.sortInt64 2 l (by omega)
def dedup : List Int → List Int
  | [] => []
  | [x] => [x]
  | x :: y :: l => if x = y then dedup (y :: l) else x :: dedup (y :: l)
theorem dedup_snoc : ∀ (l : List Int) (x y : Int), dedup (l ++ [x, y]) = if x = y then dedup (l ++ [x]) else dedup (l ++ [x]) ++ [y]
  | [], x, y => by simp only [List.nil_append, dedup]; split <;> simp [*]
  | [a], x, y => by
    have := dedup_snoc [] x y
    simp only [List.nil_append, List.cons_append, dedup] at this ⊢
    by_cases h1 : x = y <;> by_cases h2 : a = x <;> simp [h1, h2]
  | a :: b :: l, x, y => by
    have := dedup_snoc (b :: l) x y
    simp only [List.cons_append, dedup] at this ⊢
    rw [this]
    by_cases h1 : x = y <;> by_cases h2 : a = b <;> simp [h1, h2]
theorem dedup_take {l : List Int} {j : Nat} (h : j + 1 < l.length) : dedup (l.take (j + 2)) = if l[j + 1] = l[j] then dedup (l.take (j + 1)) else dedup (l.take (j + 1)) ++ [l[j + 1]] := by
  have a1 : l.take (j + 2) = l.take (j + 1) ++ [l[j + 1]] := by rw [show j + 2 = (j + 1) + 1 from rfl, List.take_add_one, List.getElem?_eq_getElem h]; rfl
  have a2 : l.take (j + 1) = l.take j ++ [l[j]] := by rw [List.take_add_one, List.getElem?_eq_getElem (by omega)]; rfl
  have e1 : l.take (j + 2) = l.take j ++ [l[j], l[j + 1]] := by rw [a1, a2, List.append_assoc]; rfl
  have e2 : l.take (j + 1) = l.take j ++ [l[j]] := by
    rw [List.take_add_one, List.getElem?_eq_getElem (by omega)]
    rfl
  rw [e1, e2, dedup_snoc]
  by_cases hh : l[j] = l[j + 1]
  · rw [if_pos hh, if_pos hh.symm]
  · rw [if_neg hh, if_neg (fun x => hh x.symm)]
theorem dedup_small {l : List Int} (h : l.length < 2) : dedup l = l := by
  match l, h with
  | [], _ => rfl
  | [x], _ => rfl
theorem dedup_len : ∀ l : List Int, (dedup l).length ≤ l.length
  | [] => Nat.le_refl _
  | [x] => Nat.le_refl _
  | x :: y :: l => by
    have := dedup_len (y :: l)
    rw [dedup]
    split
    · simp only [List.length_cons] at *; omega
    · simp only [List.length_cons] at *; omega
@[simp] theorem rowN_len (l : List Int) : (rowN l).length = l.length := by simp [rowN]
theorem rowN_get {l : List Int} {i : Nat} (h : i < l.length) : (rowN l)[i]? = some [.sc (.int .i64 l[i])] := by simp [rowN, h]
@[simp] theorem rowN_getElem (l : List Int) (i : Nat) (h : i < (rowN l).length) : (rowN l)[i] = [.sc (.int .i64 (l[i]'(by simpa using h)))] := by simp [rowN]
/-- What the second loop keeps: `C` now stands where `xs` stood. -/
structure Cmpd (xs C : List Int) (k j : Nat) : Prop where
  len : C.length = xs.length
  k1 : 1 ≤ k
  kj : k + 1 ≤ j
  jl : j ≤ xs.length
  pre : C.take k = dedup (xs.take j)
  suf : ∀ i, j ≤ i + 1 → C[i]? = xs[i]?
theorem Cmpd.get {xs C : List Int} {k j i : Nat} (h : Cmpd xs C k j) (hi : j ≤ i + 1) (hx : i < xs.length) (hc : i < C.length) : C[i] = xs[i] := by
  have := h.suf i hi
  rw [List.getElem?_eq_getElem hx, List.getElem?_eq_getElem hc] at this
  exact Option.some.inj this
theorem Cmpd.skip {xs C : List Int} {k j : Nat} (h : Cmpd xs C k (j + 1)) (hj : j + 1 < xs.length) (he : xs[j + 1] = xs[j]) : Cmpd xs C k (j + 2) := by
  obtain ⟨a1, a2, a3, a4, a5, a6⟩ := h
  refine ⟨a1, a2, by omega, by omega, ?_, fun i hi => a6 i (by omega)⟩
  rw [dedup_take hj, if_pos he, a5]
theorem Cmpd.put {xs C : List Int} {k j : Nat} (h : Cmpd xs C k (j + 1)) (hj : j + 1 < xs.length) (he : ¬ xs[j + 1] = xs[j]) : Cmpd xs (C.set k xs[j + 1]) (k + 1) (j + 2) := by
  obtain ⟨a1, a2, a3, a4, a5, a6⟩ := h
  refine ⟨by simpa using a1, by omega, by omega, by omega, ?_, fun i hi => ?_⟩
  · rw [dedup_take hj, if_neg he, ← a5, List.take_add_one, List.getElem?_set_self (by omega), List.take_set_of_le (Nat.le_refl _)]
    rfl
  · rw [List.getElem?_set_ne (by omega)]
    exact a6 i (by omega)
set_option maxRecDepth 8000 in
set_option maxHeartbeats 2000000 in
theorem compact_spec (l : List Int) (hl : l.length ≤ 1000000000) :
    FSpec Tryz.prog 100 [.row 0] [.row 2 1 (rowN l)] (.im (.sl 1 (rowN (dedup l)))) [.gone] := by
  refine FSpec.of_o (q := [(6, .n 9), (11, .n 9)]) Tryz.func100 (by kernel_rfl) rfl Tryz.ntmps100 Tryz.results100 hP (by kernel_rfl) (by simp) (by first | rfl | simp) ?_
  simp -implicitDefEqProofs
  refine ⟨fun h => ?_, fun h2 => ?_⟩
  · refine EndO.ret [0] [0] (.row 0) (by simp) ?_
    simp -implicitDefEqProofs [dedup_small (show l.length < 2 by omega)]
  refine LoopK.os (fun k : Nat => [(0, .row 0), (3, .int .i64 k)])
    (fun _ => [.row 2 1 (rowN l)])
    (fun k => 1 ≤ k ∧ k ≤ l.length ∧ dedup (l.take k) = l.take k) (fun k => l.length - k) 1 [0] ⟨Nat.le_refl _, by omega, dedup_small (by simp; omega)⟩ (by simp) ?_
  rintro k ⟨hk1, hk, hR⟩
  by_cases hlt : k < l.length
  · obtain ⟨j, hj⟩ : ∃ j, k = j + 1 := ⟨k - 1, by omega⟩
    have e1 : IntKind.i64.wrap ((k : Int) - 1) = (j : Nat) := by rw [wrap64 (by omega) (by omega)]; omega
    have e2 : IntKind.i64.wrap ((k : Int) + 1) = (k + 1 : Nat) := wrap64 (by omega) (by omega)
    have hjl : j < l.length := by omega
    have hd : dedup (l.take (k + 1)) = if l[k] = l[j] then dedup (l.take k) else dedup (l.take k) ++ [l[k]] := by
      subst hj; exact dedup_take hlt
    simp -implicitDefEqProofs [hlt, hjl, e1, e2]
    refine ⟨fun heq => ⟨hk, ?_⟩, fun hne => ?_⟩
    · rw [if_pos heq] at hd
      have hd' := hd
      clear e1 e2 hd
      refine LoopK.os (fun g : Nat × Nat × List Int => [(0, .row 0), (3, .int .i64 g.1), (4, .sub 0 1 k (l.length - k)), (5, .int .i64 g.2.1)])
        (fun g => [.row 2 1 (rowN g.2.2)])
        (fun g => Cmpd l g.2.2 g.1 (k + g.2.1) ∧ 1 ≤ g.2.1) (fun g => l.length - (k + g.2.1)) (k, 1, l) [0] ⟨⟨rfl, hk1, Nat.le_refl _, hlt, by rw [hd', hR], fun i _ => rfl⟩, Nat.le_refl _⟩ (by simp) ?_
      rintro ⟨k', k2, C⟩ ⟨hC, hk2⟩
      simp only at hC hk2
      have c0 := hC.len
      have c1 := hC.k1
      have c2 := hC.kj
      have c3 := hC.jl
      by_cases hl2 : k2 < l.length - k
      · obtain ⟨i2, hi2⟩ : ∃ i2, k2 = i2 + 1 := ⟨k2 - 1, by omega⟩
        have e1 : IntKind.i64.wrap ((k2 : Int) - 1) = (i2 : Nat) := by rw [wrap64 (by omega) (by omega)]; omega
        have e2 : IntKind.i64.wrap ((k2 : Int) + 1) = (k2 + 1 : Nat) := wrap64 (by omega) (by omega)
        have e3 : IntKind.i64.wrap ((k' : Int) + 1) = (k' + 1 : Nat) := wrap64 (by omega) (by omega)
        have b1 : k + k2 < C.length := by omega
        have b2 : k + i2 < C.length := by omega
        have b3 : i2 < l.length - k := by omega
        have b4 : k' < C.length := by omega
        simp -implicitDefEqProofs [hl2, e1, e2, e3, b1, b2, b3, b4]
        have g1 := hC.get (i := k + k2) (by omega) (by omega) b1
        have g2 := hC.get (i := k + i2) (by omega) (by omega) b2
        have hmod := mod_set (fun x : Int => [IV.sc (.int .i64 x)]) C C[k + k2] k' (fun x => IV.sc (.int .i64 C[k + k2]) :: x.tail) (fun x => rfl)
        subst hi2
        refine ⟨by omega, fun hne => ⟨by omega, ?_⟩, fun he => ?_⟩
        · refine Again.os (k' + 1, i2 + 1 + 1, C.set k' C[k + (i2 + 1)]) [0] ⟨?_, by show 1 ≤ i2 + 1 + 1; omega⟩ (by show l.length - (k + (i2 + 1 + 1)) < l.length - (k + (i2 + 1)); omega) ?_
          · rw [g1]
            exact Cmpd.put (j := k + i2) hC (by omega) (by rw [← g2]; exact fun h => hne (g1.trans h))
          · show EntO _ _ _ _ _ _ _
            simp -implicitDefEqProofs [e2, e3]
            exact hmod
        · refine Again.os (k', i2 + 1 + 1, C) [0] ⟨?_, by show 1 ≤ i2 + 1 + 1; omega⟩ (by show l.length - (k + (i2 + 1 + 1)) < l.length - (k + (i2 + 1)); omega) ?_
          · exact Cmpd.skip (j := k + i2) hC (by omega) (by rw [← g2, ← he]; exact g1.symm)
          · simp -implicitDefEqProofs [e2]
      · have hkl : k + k2 = l.length := by omega
        have hpre := hC.pre
        rw [hkl, List.take_length] at hpre
        simp -implicitDefEqProofs [hl2]
        refine ⟨by omega, by omega, .inr ⟨by omega, ?_⟩⟩
        refine EndO.ret [1] [0] (.row 1) (by simp) ?_
        have ht : List.take k' (List.take k' (rowN C) ++ (List.replicate (C.length - k') [IV.sc (.int .i64 0)] ++ List.drop (k' + (C.length - k')) (rowN C))) = rowN (dedup l) := by
          rw [List.take_append_of_le_length (by simp; omega), List.take_take, Nat.min_self, ← hpre]
          simp [rowN]
        simp -implicitDefEqProofs [ht]
    · rw [if_neg hne, hR] at hd
      have ht : l.take k ++ [l[k]] = l.take (k + 1) := by rw [List.take_add_one, List.getElem?_eq_getElem hlt]; rfl
      refine Again.os (k + 1) [0] ⟨by omega, hlt, by rw [hd, ht]⟩ (by omega) ?_
      simp -implicitDefEqProofs [e2]
  · have : k = l.length := by omega
    subst this
    rw [List.take_length] at hR
    simp -implicitDefEqProofs
    refine EndO.ret [0] [0] (.row 0) (by simp) ?_
    simp -implicitDefEqProofs [hR]
end Go.Am


set_option linter.unusedVariables false
set_option linter.unusedSimpArgs false
set_option pp.deepTerms false
set_option pp.deepTerms.threshold 40
namespace Go.Am
open Go.Proofs

theorem dedup_mem : ∀ (l : List Int) (r : Int), r ∈ dedup l ↔ r ∈ l
  | [], r => Iff.rfl
  | [x], r => Iff.rfl
  | x :: y :: l, r => by
    have ih := dedup_mem (y :: l) r
    rw [dedup]
    split
    · rename_i h
      subst h
      rw [ih]
      simp
    · rw [List.mem_cons, ih, List.mem_cons (a := r) (b := x)]
theorem dedup_sorted : ∀ {l : List Int}, l.Pairwise (· ≤ ·) → (dedup l).Pairwise (· < ·)
  | [], _ => List.Pairwise.nil
  | [x], _ => List.pairwise_singleton _ _
  | x :: y :: l, h => by
    have h1 := List.pairwise_cons.1 h
    have h2 := List.pairwise_cons.1 h1.2
    rw [dedup]
    split
    · exact dedup_sorted h1.2
    · rename_i hne
      refine List.pairwise_cons.2 ⟨fun z hz => ?_, dedup_sorted h1.2⟩
      rw [dedup_mem] at hz
      have hxy := h1.1 y List.mem_cons_self
      rcases List.mem_cons.1 hz with rfl | hz
      · omega
      · have := h2.1 z hz
        omega
/-- When something happened within a window. -/
def happT (l : List Ev) (a b : Int) : List Int := (l.filter fun e => decide (a < e.time) && decide (e.time ≤ b)).map Ev.time
def timesF (l : List Ev) (a b : Int) : List Int := dedup (sortI (happT l a b))
theorem timesF_sorted (l : List Ev) (a b : Int) : (timesF l a b).Pairwise (· < ·) := dedup_sorted (sortI_sorted _)
theorem timesF_mem (l : List Ev) (a b r : Int) : r ∈ timesF l a b ↔ r ∈ happT l a b := by
  unfold timesF
  rw [dedup_mem]
  exact (sortI_perm _).mem_iff
end Go.Am


set_option linter.unusedVariables false
set_option linter.unusedSimpArgs false
set_option pp.deepTerms false
set_option pp.deepTerms.threshold 40
namespace Go.Am
open Go.Proofs

abbrev Ivl := Int × Int
@[simp] def ivI (x : Ivl) : List IV := [.sc (.int .i64 x.1), .sc (.int .i64 x.2)]
@[simp] def fieldI : AV := .agg [.int .i64 0, .int .i64 1099511627776, .fn 174 [], .fn 175 [], .fn 176 []]
end Go.Am


set_option linter.unusedVariables false
set_option linter.unusedSimpArgs false
set_option pp.deepTerms false
set_option pp.deepTerms.threshold 40
namespace Go.Am
open Go.Proofs

end Go.Am


set_option linter.unusedVariables false
set_option linter.unusedSimpArgs false
set_option pp.deepTerms false
set_option pp.deepTerms.threshold 40
namespace Go.Am
open Go.Proofs

def Past.wf (p : Past) : Prop := p.base.wf ∧ ∀ e ∈ p.evs, 0 ≤ e.seq ∧ e.pfx.addr.wf
theorem allN_ok {n : Net} {l : List Ev} {hz : Int} (h : (allN n l hz).2.2 = 0) : netOk n = true := by
  cases hn : netOk n with
  | true => rfl
  | false => unfold allN at h; rw [if_pos hn] at h; cases h
end Go.Am


set_option linter.unusedVariables false
set_option linter.unusedSimpArgs false
set_option pp.deepTerms false
set_option pp.deepTerms.threshold 40
namespace Go.Am
open Go.Proofs

end Go.Am


set_option linter.unusedVariables false
set_option linter.unusedSimpArgs false
set_option pp.deepTerms false
set_option pp.deepTerms.threshold 40
namespace Go.Am
open Go.Proofs

theorem find_put {α : Type} (key : α → Int) (l : List α) (s : α) (r : Int) :
    (l.filter (fun a => decide (key a < key s)) ++ [s] ++ l.filter (fun a => decide (key s < key a))).find? (fun a => decide (key a = r)) = if r = key s then some s else l.find? fun a => decide (key a = r) := by
  rw [List.find?_append, List.find?_append, List.find?_filter, List.find?_filter]
  by_cases h : r = key s
  · subst h
    have h1 : (l.find? fun a => decide (decide (key a < key s) = true ∧ decide (key a = key s) = true)) = none := by
      rw [List.find?_eq_none]
      intro x _
      simp
      omega
    rw [if_pos rfl, h1]
    simp
  · rw [if_neg h]
    have hs : [s].find? (fun a => decide (key a = r)) = none := by
      rw [List.find?_eq_none]
      intro x hx
      rw [List.mem_singleton] at hx
      subst hx
      simp
      omega
    rw [hs]
    rcases Int.lt_or_gt_of_ne h with h1 | h1
    · have e1 : (l.find? fun a => decide (decide (key a < key s) = true ∧ decide (key a = r) = true)) = l.find? fun a => decide (key a = r) := by
        congr
        funext a
        by_cases h2 : key a = r
        · simp [h2, h1]
        · simp [h2]
      have e2 : (l.find? fun a => decide (decide (key s < key a) = true ∧ decide (key a = r) = true)) = none := by
        rw [List.find?_eq_none]
        intro x _
        simp
        omega
      rw [e1, e2]
      simp
    · have e1 : (l.find? fun a => decide (decide (key s < key a) = true ∧ decide (key a = r) = true)) = l.find? fun a => decide (key a = r) := by
        congr
        funext a
        by_cases h2 : key a = r
        · simp [h2, h1]
        · simp [h2]
      have e2 : (l.find? fun a => decide (decide (key a < key s) = true ∧ decide (key a = r) = true)) = none := by
        rw [List.find?_eq_none]
        intro x _
        simp
        omega
      rw [e1, e2]
      simp
theorem seatF_find : ∀ (l : List Seat) (r : Int), seatF l r = l.find? fun s => decide (s.router = r)
  | [], r => rfl
  | s :: l, r => by
    rw [seatF, List.find?_cons]
    by_cases h : s.router = r
    · simp [h]
    · simp [h, seatF_find l r]
theorem seatF_put (l : List Seat) (e : Ev) (r : Int) : seatF (putSeat l (seatOf e)) r = if r = e.router then some (seatOf e) else seatF l r := by
  rw [seatF_find, seatF_find]
  exact find_put Seat.router l (seatOf e) r
theorem routerF_after {n : Net} {e : Ev} {hz : Int} (hok : netOk n = true) (h : mayS n.seats e hz = 0) (h2 : (applyR (mineN n e) e).2 = 0) (r : Int) :
    routerF (netAfter n e hz).routers r = if r = e.router then some (applyR (mineN n e) e).1 else routerF n.routers r := by
  obtain ⟨g1, g2, g3, g4, g5⟩ := mayS_zero h
  obtain ⟨m1, m2⟩ := mineN_ok hok g2
  obtain ⟨a1, a2, a3⟩ := applyR_ok m1 g2 m2 h2
  rw [netAfter_routers hok h]
  simp only [cmpT_neg, cmpT_gt]
  have := find_put Router.id n.routers (applyR (mineN n e) e).1 r
  rw [a2] at this
  exact this
theorem happensF_get {n : Net} {e : Ev} {hz : Int} (hok : netOk n = true) (h : (happensF n e hz).2 = 0) :
    (∀ r, seatF (happensF n e hz).1.seats r = if r = e.router then some (seatOf e) else seatF n.seats r) ∧ ∀ r, routerF (happensF n e hz).1.routers r = if r = e.router then some (applyR (mineN n e) e).1 else routerF n.routers r := by
  obtain ⟨h1, h2, h3⟩ := happensF_zero h
  have hx : happensF n e hz = (netAfter n e hz, 0) := by
    unfold happensF
    rw [if_neg (by omega), if_neg (by omega), if_neg h3]
  rw [hx]
  refine ⟨fun r => ?_, routerF_after hok h1 h2⟩
  show seatF (nextS n.seats e hz).1 r = _
  rw [nextS_zero h1]
  exact seatF_put _ _ _
theorem putRt_sz (l : List Route) (x : Route) : (putRt l x).1.length ≤ l.length + 1 := by
  unfold putRt
  split
  · simp
  rename_i hc
  have hR : checkR l = 0 := by apply Classical.byContradiction; intro hn; exact hc (.inl hn)
  split
  · simp
  rw [ltR_wo, gtR_wo]
  cases hf : bsF (cmpQ x.pfx) l with
  | true => rw [← bs_set (strictR hR _) x hf]; simp
  | false =>
    rw [← bs_ins (strictR hR _) x hf]
    simp only [List.length_append, List.length_cons, List.length_take, List.length_drop]
    omega
theorem delRt_sz (l : List Route) (p : Pfx) : (delRt l p).1.length ≤ l.length := by
  unfold delRt
  split
  · simp
  · exact woR_len _ _
theorem putLk_sz (l : List Link) (x : Link) : (putLk l x).1.length ≤ l.length + 1 := by
  unfold putLk
  split
  · simp
  rename_i hc
  have hR : checkL l = 0 := by apply Classical.byContradiction; intro hn; exact hc (.inl hn)
  split
  · simp
  rw [ltL_cmp, gtL_cmp]
  cases hf : bsF (cmpL x.iface) l with
  | true => rw [← bs_set (strictL hR _) x hf]; simp
  | false =>
    rw [← bs_ins (strictL hR _) x hf]
    simp only [List.length_append, List.length_cons, List.length_take, List.length_drop]
    omega
theorem delLk_sz (l : List Link) (i : Int) : (delLk l i).1.length ≤ l.length := by
  unfold delLk
  split
  · simp
  rename_i hc
  have hR : checkL l = 0 := by apply Classical.byContradiction; intro hn; exact hc hn
  rw [ltL_cmp, gtL_cmp, ← bs_ne (strictL hR i)]
  exact List.length_filter_le _ _
theorem applyR_sz (r : Router) (e : Ev) : sz (applyR r e).1 ≤ sz r + if growsE e then 1 else 0 := by
  have b1 := putRt_sz r.routes ⟨e.pfx, e.act⟩
  have b2 := delRt_sz r.routes e.pfx
  have b3 := putLk_sz r.links ⟨e.iface, e.peer⟩
  have b4 := delLk_sz r.links e.iface
  have hg3 : e.kind = 3 → growsE e = true := fun h => by simp [growsE, h]
  have hg5 : e.kind = 5 → growsE e = true := fun h => by simp [growsE, h]
  unfold applyR
  split
  · simp [sz, router0]
  split
  · simp
  split
  · simp
  split
  · simp [sz]
  split
  · simp [sz]
  split
  · rename_i h
    rw [hg3 h]
    split
    · simp [sz]; omega
    · simp
  split
  · simp [sz]; omega
  split
  · rename_i h
    rw [hg5 h]
    split
    · simp [sz]; omega
    · simp
  · simp [sz]; omega
theorem happensF_sum {n : Net} {e : Ev} {hz : Int} (hok : netOk n = true) (h : (happensF n e hz).2 = 0) : sumR (happensF n e hz).1.routers ≤ sumR n.routers + if growsE e then 1 else 0 := by
  have hok2 := happensF_ok (e := e) (hz := hz) hok
  obtain ⟨h1, h2, h3⟩ := happensF_zero h
  have hx : happensF n e hz = (netAfter n e hz, 0) := by
    unfold happensF
    rw [if_neg (by omega), if_neg (by omega), if_neg h3]
  rw [hx] at hok2 ⊢
  have hm := (netOk_many hok2).1
  obtain ⟨c1, c2, c3⟩ := many_after hok h1 h2
  have hs := applyR_sz (mineN n e) e
  simp only at hm ⊢
  rw [c1] at hm
  omega
end Go.Am


set_option linter.unusedVariables false
set_option linter.unusedSimpArgs false
set_option pp.deepTerms false
set_option pp.deepTerms.threshold 40
namespace Go.Am
open Go.Proofs

/-- What is known of a net of the events up to a time, beside the net of all of them. -/
def Rel (t : Int) (N M : Net) : Prop := ∀ r, (seatF M.seats r = seatF N.seats r ∧ routerF M.routers r = routerF N.routers r) ∨ ∃ s, seatF N.seats r = some s ∧ t < s.time
def Sub (N M : Net) : Prop := ∀ r, seatF N.seats r = none → seatF M.seats r = none
theorem sorted_le : ∀ (b a : List Int), a.Pairwise (· < ·) → b.Pairwise (· < ·) → (∀ x ∈ a, x ∈ b) → a.length ≤ b.length
  | [], a, _, _, h => by
    cases a with
    | nil => exact Nat.le_refl _
    | cons x a => exact absurd (h x List.mem_cons_self) (by simp)
  | y :: b, [], _, _, _ => Nat.zero_le _
  | y :: b, x :: a, ha, hb, h => by
    have ha1 := List.pairwise_cons.1 ha
    have hb1 := List.pairwise_cons.1 hb
    by_cases hxy : x = y
    · subst hxy
      have := sorted_le b a ha1.2 hb1.2 fun z hz => by
        have h1 := ha1.1 z hz
        rcases List.mem_cons.1 (h z (List.mem_cons_of_mem _ hz)) with rfl | h2
        · omega
        · exact h2
      simp only [List.length_cons]
      omega
    · have hx : x ∈ b := (List.mem_cons.1 (h x List.mem_cons_self)).resolve_left hxy
      have hyx := hb1.1 x hx
      have := sorted_le b (x :: a) ha hb1.2 fun z hz => by
        rcases List.mem_cons.1 hz with rfl | hz'
        · exact hx
        · have h1 := ha1.1 z hz'
          rcases List.mem_cons.1 (h z hz) with rfl | h2
          · omega
          · exact h2
      simp only [List.length_cons] at *
      omega
theorem sub_len {N M : Net} (hN : netOk N = true) (hM : netOk M = true) (h : Sub N M) : M.seats.length ≤ N.seats.length := by
  have := sorted_le (N.seats.map Seat.router) (M.seats.map Seat.router) (by rw [List.pairwise_map]; exact checkS_sorted (netOk_checkS hM)) (by rw [List.pairwise_map]; exact checkS_sorted (netOk_checkS hN)) fun x hx => by
    obtain ⟨s, hs, rfl⟩ := List.mem_map.1 hx
    apply Classical.byContradiction
    intro hn
    have h1 : seatF N.seats s.router = none := by
      rw [seatF_none]
      rintro ⟨u, hu, hur⟩
      exact hn (List.mem_map.2 ⟨u, hu, hur⟩)
    have h2 := h _ h1
    rw [seatF_none] at h2
    exact h2 ⟨s, hs, rfl⟩
  simpa using this
theorem mayT_time {l : List Seat} {e : Ev} {hz : Int} (h : mayT l e hz = 0) : ((seatF l e.router).getD seat0).time ≤ e.time := by
  unfold mayT at h
  split at h
  · cases h
  split at h
  · cases h
  split at h
  · cases h
  omega
theorem mayT_same {l m : List Seat} {e : Ev} {hz : Int} (h : mayT l e hz = 0) (hs : seatF m e.router = seatF l e.router) (hl : seatF l e.router = none → ¬ m.length = 64) : mayT m e hz = 0 := by
  unfold mayT at h ⊢
  rw [hs]
  split at h
  · cases h
  rename_i c1
  split at h
  · cases h
  rename_i c2
  split at h
  · cases h
  rename_i c3
  split at h
  · cases h
  rename_i c4
  rw [if_neg c1, if_neg c2, if_neg c3, if_neg c4, if_neg]
  rintro ⟨h1, h2⟩
  exact hl h1 h2
/-- What happens at the one net happens at another one that knows as much of the router. -/
theorem happens_like {N M : Net} {e : Ev} {hz : Int} (hN : netOk N = true) (hM : netOk M = true) (h : (happensF N e hz).2 = 0) (hs : seatF M.seats e.router = seatF N.seats e.router) (hr : routerF M.routers e.router = routerF N.routers e.router)
    (hl : seatF N.seats e.router = none → ¬ M.seats.length = 64) (hsum : sumR M.routers + (if growsE e then 1 else 0) ≤ 1024) : (happensF M e hz).2 = 0 ∧ mineN M e = mineN N e := by
  obtain ⟨h1, h2, h3⟩ := happensF_zero h
  obtain ⟨g1, g2, g3, g4, g5⟩ := mayS_zero h1
  have hmine : mineN M e = mineN N e := by unfold mineN; rw [hr]
  have k1 : mayS M.seats e hz = 0 := by
    rw [mayS_T (netOk_checkS hM) g2 g3 g4]
    exact mayT_same g5 hs hl
  have k2 : (applyR (mineN M e) e).2 = 0 := by rw [hmine]; exact h2
  have k3 : ¬ 1024 < many (netAfter M e hz).routers 0 := by
    obtain ⟨c1, c2, c3⟩ := many_after hM k1 k2
    have hsz := applyR_sz (mineN M e) e
    rw [c1]
    omega
  refine ⟨?_, hmine⟩
  unfold happensF
  rw [if_neg (by omega), if_neg (by omega), if_neg k3]
theorem rel_step {N M : Net} {e : Ev} {hz t : Int} (hN : netOk N = true) (hM : netOk M = true) (h : (happensF N e hz).2 = 0) (hrel : Rel t N M) (hsub : Sub N M) (het : e.time ≤ t) (hsum : sumR M.routers + (if growsE e then 1 else 0) ≤ 1024) :
    (happensF M e hz).2 = 0 ∧ Rel t (happensF N e hz).1 (happensF M e hz).1 ∧ Sub (happensF N e hz).1 (happensF M e hz).1 := by
  obtain ⟨h1, h2, h3⟩ := happensF_zero h
  obtain ⟨g1, g2, g3, g4, g5⟩ := mayS_zero h1
  rcases hrel e.router with ⟨hs, hr⟩ | ⟨s, hs, hst⟩
  · have hlen := sub_len hN hM hsub
    have h64 := netOk_seats hN
    obtain ⟨k, hmine⟩ := happens_like hN hM h hs hr (fun hn => by have := mayT_len g5 hn; omega) hsum
    obtain ⟨n1, n2⟩ := happensF_get hN h
    obtain ⟨m1, m2⟩ := happensF_get hM k
    refine ⟨k, fun r => ?_, fun r hr0 => ?_⟩
    · rw [n1, n2, m1, m2, hmine]
      by_cases hre : r = e.router
      · simp only [if_pos hre]
        exact .inl (by simp)
      · simp only [if_neg hre]
        exact hrel r
    · rw [n1] at hr0
      rw [m1]
      by_cases hre : r = e.router
      · rw [if_pos hre] at hr0; cases hr0
      · rw [if_neg hre] at hr0 ⊢
        exact hsub r hr0
  · have := mayT_time g5
    rw [hs] at this
    simp only [Option.getD_some] at this
    omega
theorem rel_late {N M : Net} {e : Ev} {hz t : Int} (hN : netOk N = true) (h : (happensF N e hz).2 = 0) (hrel : Rel t N M) (hsub : Sub N M) (het : t < e.time) : Rel t (happensF N e hz).1 M ∧ Sub (happensF N e hz).1 M := by
  obtain ⟨n1, n2⟩ := happensF_get hN h
  refine ⟨fun r => ?_, fun r hr0 => ?_⟩
  · rw [n1, n2]
    by_cases hre : r = e.router
    · simp only [if_pos hre]
      exact .inr ⟨seatOf e, rfl, het⟩
    · simp only [if_neg hre]
      exact hrel r
  · rw [n1] at hr0
    by_cases hre : r = e.router
    · rw [if_pos hre] at hr0; cases hr0
    · rw [if_neg hre] at hr0
      exact hsub r hr0
theorem allGo_step {hz : Int} {e : Ev} {l : List Ev} {n : Net} {i : Int} (h : (allGo hz (e :: l) n i).2.2 = 0) : (happensF n e hz).2 = 0 ∧ allGo hz (e :: l) n i = allGo hz l (happensF n e hz).1 (i + 1) := by
  rw [allGo] at h
  split at h
  · rename_i h1
    exact ⟨h1, by rw [allGo, if_pos h1]⟩
  · rename_i h1
    exact absurd h h1
theorem filt_all {t hz : Int} : ∀ (l : List Ev) (N M : Net) (i j : Int), netOk N = true → netOk M = true → Rel t N M → Sub N M → sumR M.routers + addsE (upto t l) ≤ 1024 → (allGo hz l N i).2.2 = 0 →
    (allGo hz (upto t l) M j).2.2 = 0 ∧ Rel t (allGo hz l N i).1 (allGo hz (upto t l) M j).1 ∧ netOk (allGo hz (upto t l) M j).1 = true
  | [], N, M, i, j, hN, hM, hr, hs, _, _ => ⟨rfl, hr, hM⟩
  | e :: l, N, M, i, j, hN, hM, hr, hs, hsum, h => by
    obtain ⟨h1, h2⟩ := allGo_step h
    rw [h2] at h ⊢
    have hN' := happensF_ok (e := e) (hz := hz) hN
    by_cases het : e.time ≤ t
    · have hu : upto t (e :: l) = e :: upto t l := by unfold upto; rw [List.filter_cons, if_pos (by simpa using het)]
      have ha : addsE (upto t (e :: l)) = addsE (upto t l) + if growsE e then 1 else 0 := by
        rw [hu]
        unfold addsE growsE
        rw [List.countP_cons]
      rw [ha] at hsum
      obtain ⟨k1, k2, k3⟩ := rel_step hN hM h1 hr hs het (by omega)
      have hM' := happensF_ok (e := e) (hz := hz) hM
      have hsz := happensF_sum hM k1
      rw [hu, allGo, if_pos k1]
      exact filt_all l _ _ _ _ hN' hM' k2 k3 (by omega) h
    · have hu : upto t (e :: l) = upto t l := by unfold upto; rw [List.filter_cons, if_neg (by simpa using het)]
      rw [hu] at hsum ⊢
      obtain ⟨k2, k3⟩ := rel_late hN h1 hr hs (by omega)
      exact filt_all l _ _ _ _ hN' hM k2 k3 hsum h
theorem addsE_upto (t : Int) (l : List Ev) : addsE (upto t l) ≤ addsE l := (List.filter_sublist).countP_le
theorem okP_base {p : Past} (h : okP p = true) : netOk p.base = true := by
  unfold okP at h
  simp only [Bool.and_eq_true, decide_eq_true_eq] at h
  exact allN_ok h.1.2
theorem okP_all {p : Past} (h : okP p = true) : (allGo p.hz p.evs p.base 0).2.2 = 0 := by
  have hb := okP_base h
  unfold okP at h
  simp only [Bool.and_eq_true, decide_eq_true_eq] at h
  have := h.1.2
  unfold allN at this
  rw [if_neg (by simp [hb])] at this
  exact this
theorem okP_sum {p : Past} (h : okP p = true) : sumR p.base.routers + addsE p.evs ≤ 1024 := by
  have hb := okP_base h
  have hw := okP_weight h
  have hm := (netOk_many hb).1
  unfold weightF sizeN at hw
  rw [if_pos hb, hm] at hw
  omega
theorem Rel.refl (t : Int) (N : Net) : Rel t N N := fun r => .inl ⟨rfl, rfl⟩
/-- A right past has a net at each time. -/
theorem thenW_ok {p : Past} (h : okP p = true) (t : Int) : thenW p t = 0 := by
  have hb := okP_base h
  have hs := okP_sum h
  have ha := addsE_upto t p.evs
  unfold thenW allN
  rw [if_neg (by simp [hb])]
  exact (filt_all p.evs p.base p.base 0 0 hb hb (Rel.refl _ _) (fun r h => h) (by omega) (okP_all h)).1
end Go.Am


set_option linter.unusedVariables false
set_option linter.unusedSimpArgs false
set_option pp.deepTerms false
set_option pp.deepTerms.threshold 40
namespace Go.Am
open Go.Proofs

end Go.Am


set_option linter.unusedVariables false
set_option linter.unusedSimpArgs false
set_option pp.deepTerms false
set_option pp.deepTerms.threshold 40
namespace Go.Am
open Go.Proofs

end Go.Am


set_option linter.unusedVariables false
set_option linter.unusedSimpArgs false
set_option pp.deepTerms false
set_option pp.deepTerms.threshold 40
namespace Go.Am
open Go.Proofs

theorem nowP_go {p : Past} (h : okP p = true) : nowP p = (allGo p.hz p.evs p.base 0).1 := by
  unfold nowP allN
  rw [if_neg (by simp [okP_base h])]
theorem thenF_go {p : Past} (h : okP p = true) (t : Int) : thenF p t = (allGo p.hz (upto t p.evs) p.base 0).1 := by
  unfold thenF allN
  rw [if_neg (by simp [okP_base h])]
theorem thenF_all {p : Past} (h : okP p = true) (t : Int) : (allGo p.hz (upto t p.evs) p.base 0).2.2 = 0 ∧ Rel t (nowP p) (thenF p t) ∧ netOk (thenF p t) = true := by
  have hb := okP_base h
  have hs := okP_sum h
  have ha := addsE_upto t p.evs
  rw [nowP_go h, thenF_go h]
  exact filt_all p.evs p.base p.base 0 0 hb hb (Rel.refl _ _) (fun r h => h) (by omega) (okP_all h)
end Go.Am


set_option linter.unusedVariables false
set_option linter.unusedSimpArgs false
set_option pp.deepTerms false
set_option pp.deepTerms.threshold 40
namespace Go.Am
open Go.Proofs

def ofN (v : Nat) : Addr4 := ⟨((v / 18446744073709551616 : Nat) : Int), ((v % 18446744073709551616 : Nat) : Int)⟩
theorem ofN_num {a : Addr4} (h : a.wf) : ofN a.num = a := by
  obtain ⟨h1, h2, h3, h4⟩ := h
  cases a with | mk hi lo =>
  simp only [ofN, Addr4.num, Addr4.mk.injEq] at *
  constructor <;> omega
theorem ofN_wf {v : Nat} (h : v < 340282366920938463463374607431768211456) : (ofN v).wf := by
  unfold ofN Addr4.wf
  simp only
  omega
theorem num_ofN {v : Nat} (h : v < 340282366920938463463374607431768211456) : (ofN v).num = v := by
  unfold ofN Addr4.num
  simp only
  omega
def maxN (six : Bool) : Nat := 2 ^ wideN six - 1
def nextF (six : Bool) (a : Addr4) : Addr4 × Int := if rightA six a = false then (⟨0, 0⟩, 2) else if a.num = maxN six then (⟨0, 0⟩, 3) else (ofN (a.num + 1), 0)
def prevF (six : Bool) (a : Addr4) : Addr4 × Int := if rightA six a = false then (⟨0, 0⟩, 2) else if a.num = 0 then (⟨0, 0⟩, 3) else (ofN (a.num - 1), 0)
def lastN (p : Pfx) : Nat := p.addr.num + (2 ^ (wideN p.six - p.len.toNat) - 1)
def lastF (p : Pfx) : Addr4 × Int := if checkP p = 0 then (ofN (lastN p), 0) else (⟨0, 0⟩, 2)
theorem maxN_lt (six : Bool) : maxN six < 340282366920938463463374607431768211456 := by cases six <;> decide
theorem maxN_all {six : Bool} {a : Addr4} (hw : a.wf) (hr : rightA six a = true) : a.num ≤ maxN six := by
  have := Addr4.num_lt hw hr
  unfold maxN
  omega
end Go.Am


set_option linter.unusedVariables false
set_option linter.unusedSimpArgs false
set_option pp.deepTerms false
set_option pp.deepTerms.threshold 40
namespace Go.Am
open Go.Proofs

end Go.Am


set_option linter.unusedVariables false
set_option linter.unusedSimpArgs false
set_option pp.deepTerms false
set_option pp.deepTerms.threshold 40
namespace Go.Am
open Go.Proofs

def zeroA : Addr4 := ⟨0, 0⟩
theorem checkP_two {p : Pfx} (h : ¬ checkP p = 0) : checkP p = 2 := by
  unfold checkP at h ⊢
  split
  · rfl
  · rename_i h1
    rw [if_neg h1] at h
    split
    · rfl
    · rename_i h2
      rw [if_neg h2] at h
      exact absurd rfl h
end Go.Am


set_option linter.unusedVariables false
set_option linter.unusedSimpArgs false
set_option pp.deepTerms false
set_option pp.deepTerms.threshold 40
namespace Go.Am
open Go.Proofs

@[simp] def Addr4.iv (a : Addr4) : List IV := [.sc (.int .u64 a.hi), .sc (.int .u64 a.lo)]
def SA (l : List Addr4) : Prop := l.Pairwise fun a b => a.num < b.num
def wfL (l : List Addr4) : Prop := ∀ a ∈ l, a.wf
theorem cmpA_lt {a b : Addr4} (ha : a.wf) (hb : b.wf) : cmpA a b < 0 ↔ a.num < b.num := by
  obtain ⟨a1, a2, a3, a4⟩ := ha
  obtain ⟨b1, b2, b3, b4⟩ := hb
  simp only [cmpA, orInt, cmpI, Addr4.num]
  repeat' split
  all_goals omega
theorem cmpA_gt {a b : Addr4} (ha : a.wf) (hb : b.wf) : 0 < cmpA a b ↔ b.num < a.num := by
  obtain ⟨a1, a2, a3, a4⟩ := ha
  obtain ⟨b1, b2, b3, b4⟩ := hb
  simp only [cmpA, orInt, cmpI, Addr4.num]
  repeat' split
  all_goals omega
theorem cmpA_eq {a b : Addr4} (ha : a.wf) (hb : b.wf) : cmpA a b = 0 ↔ a = b := by
  have h1 := cmpA_lt ha hb
  have h2 := cmpA_gt ha hb
  constructor
  · intro h
    exact Addr4.num_inj ha hb (by omega)
  · rintro rfl
    omega
theorem sa_eq : ∀ {a b : List Addr4}, SA a → SA b → (∀ x, x ∈ a ↔ x ∈ b) → a = b
  | [], [], _, _, _ => rfl
  | [], y :: b, _, _, h => by have := (h y).2 List.mem_cons_self; cases this
  | x :: a, [], _, _, h => by have := (h x).1 List.mem_cons_self; cases this
  | x :: a, y :: b, ha, hb, h => by
    have ha1 := List.pairwise_cons.1 ha
    have hb1 := List.pairwise_cons.1 hb
    have hxy : x = y := by
      rcases List.mem_cons.1 ((h x).1 List.mem_cons_self) with e | h1
      · exact e
      · rcases List.mem_cons.1 ((h y).2 List.mem_cons_self) with e | h2
        · exact e.symm
        · have := ha1.1 y h2
          have := hb1.1 x h1
          omega
    subst hxy
    congr 1
    refine sa_eq ha1.2 hb1.2 fun z => ?_
    constructor
    · intro hz
      rcases List.mem_cons.1 ((h z).1 (List.mem_cons_of_mem _ hz)) with rfl | h1
      · have := ha1.1 z hz; omega
      · exact h1
    · intro hz
      rcases List.mem_cons.1 ((h z).2 (List.mem_cons_of_mem _ hz)) with rfl | h1
      · have := hb1.1 z hz; omega
      · exact h1
def insA (a : Addr4) : List Addr4 → List Addr4
  | [] => [a]
  | b :: l => if a.num < b.num then a :: b :: l else if a.num = b.num then b :: l else b :: insA a l
def sortA (l : List Addr4) : List Addr4 := l.foldr insA []
theorem insA_mem {a : Addr4} (ha : a.wf) : ∀ {l : List Addr4}, wfL l → ∀ x, x ∈ insA a l ↔ x = a ∨ x ∈ l
  | [], _, x => by simp [insA]
  | b :: l, h, x => by
    rw [insA]
    split
    · simp
    · split
      · rename_i h2
        have := Addr4.num_inj ha (h b List.mem_cons_self) h2
        subst this
        simp
      · rw [List.mem_cons, insA_mem ha (fun y hy => h y (List.mem_cons_of_mem _ hy)), List.mem_cons]
        constructor
        · rintro (h1 | h1 | h1)
          · exact .inr (.inl h1)
          · exact .inl h1
          · exact .inr (.inr h1)
        · rintro (h1 | h1 | h1)
          · exact .inr (.inl h1)
          · exact .inl h1
          · exact .inr (.inr h1)
theorem insA_wf {a : Addr4} (ha : a.wf) {l : List Addr4} (h : wfL l) : wfL (insA a l) := fun x hx => by
  rcases (insA_mem ha h x).1 hx with rfl | hx
  · exact ha
  · exact h x hx
theorem insA_sa {a : Addr4} (ha : a.wf) : ∀ {l : List Addr4}, wfL l → SA l → SA (insA a l)
  | [], _, _ => by simp [insA, SA]
  | b :: l, hw, h => by
    have h1 := List.pairwise_cons.1 h
    rw [insA]
    split
    · rename_i hab
      refine List.pairwise_cons.2 ⟨fun y hy => ?_, h⟩
      rcases List.mem_cons.1 hy with rfl | hy
      · exact hab
      · have := h1.1 y hy; omega
    · split
      · exact h
      · have hwl : wfL l := fun y hy => hw y (List.mem_cons_of_mem _ hy)
        refine List.pairwise_cons.2 ⟨fun y hy => ?_, insA_sa ha hwl h1.2⟩
        rcases (insA_mem ha hwl y).1 hy with rfl | hy
        · omega
        · exact h1.1 y hy
theorem sortA_all : ∀ {l : List Addr4}, wfL l → wfL (sortA l) ∧ SA (sortA l) ∧ ∀ x, x ∈ sortA l ↔ x ∈ l
  | [], _ => ⟨fun x hx => (by cases hx), List.Pairwise.nil, fun x => Iff.rfl⟩
  | a :: l, h => by
    have ha := h a List.mem_cons_self
    obtain ⟨h1, h2, h3⟩ := sortA_all (l := l) fun y hy => h y (List.mem_cons_of_mem _ hy)
    have e : sortA (a :: l) = insA a (sortA l) := rfl
    rw [e]
    refine ⟨insA_wf ha h1, insA_sa ha h1 h2, fun x => ?_⟩
    rw [insA_mem ha h1, h3, List.mem_cons]
/-- Sorted with doubles. -/
def msA (l : List Addr4) : List Addr4 := l.mergeSort fun x y => decide (x.num ≤ y.num)
theorem msA_perm (l : List Addr4) : (msA l).Perm l := List.mergeSort_perm l _
theorem msA_sorted (l : List Addr4) : (msA l).Pairwise fun x y => x.num ≤ y.num := by
  have := List.pairwise_mergeSort (le := fun x y : Addr4 => decide (x.num ≤ y.num)) (fun a b c h1 h2 => by simp at *; omega) (fun a b => by simp; omega) l
  simpa [msA] using this
theorem perm_num : ∀ {a b : List Addr4}, a.Perm b → wfL a → (a.Pairwise fun x y => x.num ≤ y.num) → (b.Pairwise fun x y => x.num ≤ y.num) → a = b
  | [], b, h, _, _, _ => (List.nil_perm.1 h).symm
  | x :: a, [], h, _, _, _ => by have := h.length_eq; cases this
  | x :: a, y :: b, h, hw, ha, hb => by
    have hxy : x = y := by
      have h1 := h.mem_iff.1 (show x ∈ x :: a from List.mem_cons_self)
      have h2 := h.mem_iff.2 (show y ∈ y :: b from List.mem_cons_self)
      rcases List.mem_cons.1 h1 with e | h1
      · exact e
      · rcases List.mem_cons.1 h2 with e | h2
        · exact e.symm
        · have g1 := List.rel_of_pairwise_cons ha h2
          have g2 := List.rel_of_pairwise_cons hb h1
          exact Addr4.num_inj (hw x List.mem_cons_self) (hw y (List.mem_cons_of_mem _ h2)) (by omega)
    subst hxy
    rw [perm_num ((List.perm_cons x).1 h) (fun z hz => hw z (List.mem_cons_of_mem _ hz)) (List.Pairwise.of_cons ha) (List.Pairwise.of_cons hb)]
def dedupA : List Addr4 → List Addr4
  | [] => []
  | [x] => [x]
  | x :: y :: l => if x.hi = y.hi ∧ x.lo = y.lo then dedupA (y :: l) else x :: dedupA (y :: l)
theorem Addr4.eq_iff (x y : Addr4) : x = y ↔ x.hi = y.hi ∧ x.lo = y.lo := by
  cases x; cases y; simp
instance : DecidableEq Addr4 := fun x y => decidable_of_iff _ (Addr4.eq_iff x y).symm
theorem dedupA_mem : ∀ (l : List Addr4) (x : Addr4), x ∈ dedupA l ↔ x ∈ l
  | [], x => Iff.rfl
  | [a], x => Iff.rfl
  | a :: b :: l, x => by
    rw [dedupA]
    split
    · rename_i h
      have := (Addr4.eq_iff a b).2 h
      subst this
      rw [dedupA_mem (a :: l)]
      simp
    · rw [List.mem_cons, dedupA_mem (b :: l), List.mem_cons (b := a)]
theorem dedupA_sa : ∀ {l : List Addr4}, wfL l → (l.Pairwise fun x y => x.num ≤ y.num) → SA (dedupA l)
  | [], _, _ => List.Pairwise.nil
  | [a], _, _ => by simp [dedupA, SA]
  | a :: b :: l, hw, h => by
    have h1 := List.pairwise_cons.1 h
    have hwl : wfL (b :: l) := fun y hy => hw y (List.mem_cons_of_mem _ hy)
    rw [dedupA]
    split
    · exact dedupA_sa hwl h1.2
    · rename_i hne
      refine List.pairwise_cons.2 ⟨fun y hy => ?_, dedupA_sa hwl h1.2⟩
      rw [dedupA_mem] at hy
      have h2 := h1.1 b List.mem_cons_self
      have h4 : a.num ≠ b.num := fun e => hne ((Addr4.eq_iff a b).1 (Addr4.num_inj (hw a List.mem_cons_self) (hwl b List.mem_cons_self) e))
      rcases List.mem_cons.1 hy with rfl | hy
      · omega
      · have h3 := List.rel_of_pairwise_cons h1.2 hy
        omega
theorem dedupA_sort {l : List Addr4} (hw : wfL l) : dedupA (msA l) = sortA l := by
  have hwm : wfL (msA l) := fun x hx => hw x ((msA_perm l).mem_iff.1 hx)
  obtain ⟨_, b1, c1⟩ := sortA_all hw
  exact sa_eq (dedupA_sa hwm (msA_sorted l)) b1 fun x => by rw [dedupA_mem, (msA_perm l).mem_iff, c1]
end Go.Am


set_option linter.unusedVariables false
set_option linter.unusedSimpArgs false
set_option pp.deepTerms false
set_option pp.deepTerms.threshold 40
namespace Go.Proofs
def Tryz.sortAddr_ren : Go.Shelf.Ren := ⟨fun | 6 => 111 | 15 => 142 | 14 => 147 | 28 => 186 | 29 => 187 | 20 => 188 | 21 => 189 | 22 => 190 | 23 => 191 | 24 => 192 | 25 => 193 | 26 => 194 | 27 => 195 | 46 => 225 | 47 => 221 | 48 => 222 | 49 => 226 | 50 => 227 | 57 => 249 | n => n, fun | 22 => 67 | 24 => 32 | 25 => 123 | 3 => 3 | 39 => 155 | 0 => 0 | 53 => 239 | 55 => 30 | 4 => 4 | 46 => 232 | 45 => 231 | 50 => 128 | 5 => 5 | 9 => 9 | 66 => 277 | 70 => 281 | 76 => 297 | 77 => 298 | n => n, fun | n => n⟩
theorem Tryz.sortAddr : SlLaysF0.n6 Tryz.prog Tryz.sortAddr_ren := {
  mixed := by kernel_rfl,
  f6 := ⟨Tryz.f111.name, by decide, Tryz.func111.trans (congrArg some (by kernel_rfl))⟩,
  f14 := ⟨Tryz.f147.name, by decide, Tryz.func147.trans (congrArg some (by kernel_rfl))⟩,
  f15 := Tryz.func142.trans (congrArg some (by kernel_rfl)),
  f20 := ⟨Tryz.f188.name, by decide, Tryz.func188.trans (congrArg some (by kernel_rfl))⟩,
  f21 := ⟨Tryz.f189.name, by decide, Tryz.func189.trans (congrArg some (by kernel_rfl))⟩,
  f22 := ⟨Tryz.f190.name, by decide, Tryz.func190.trans (congrArg some (by kernel_rfl))⟩,
  f23 := ⟨Tryz.f191.name, by decide, Tryz.func191.trans (congrArg some (by kernel_rfl))⟩,
  f24 := ⟨Tryz.f192.name, by decide, Tryz.func192.trans (congrArg some (by kernel_rfl))⟩,
  f25 := ⟨Tryz.f193.name, by decide, Tryz.func193.trans (congrArg some (by kernel_rfl))⟩,
  f26 := ⟨Tryz.f194.name, by decide, Tryz.func194.trans (congrArg some (by kernel_rfl))⟩,
  f27 := ⟨Tryz.f195.name, by decide, Tryz.func195.trans (congrArg some (by kernel_rfl))⟩,
  f28 := Tryz.func186.trans (congrArg some (by kernel_rfl)),
  f29 := Tryz.func187.trans (congrArg some (by kernel_rfl)),
  f46 := ⟨Tryz.f225.name, by decide, Tryz.func225.trans (congrArg some (by kernel_rfl))⟩,
  f47 := Tryz.func221.trans (congrArg some (by kernel_rfl)),
  f48 := Tryz.func222.trans (congrArg some (by kernel_rfl)),
  f49 := ⟨Tryz.f226.name, by decide, Tryz.func226.trans (congrArg some (by kernel_rfl))⟩,
  f50 := ⟨Tryz.f227.name, by decide, Tryz.func227.trans (congrArg some (by kernel_rfl))⟩,
  f57 := ⟨Tryz.f249.name, by decide, Tryz.func249.trans (congrArg some (by kernel_rfl))⟩,
  t0 := Tryz.underlying0,
  a0 := Tryz.isAgg0,
  z0 := Tryz.sizeOf0,
  v0 := Tryz.zeroValue0,
  t3 := Tryz.underlying3,
  a3 := Tryz.isAgg3,
  z3 := Tryz.sizeOf3,
  v3 := Tryz.zeroValue3,
  t4 := Tryz.underlying4,
  a4 := Tryz.isAgg4,
  z4 := Tryz.sizeOf4,
  v4 := Tryz.zeroValue4,
  t5 := Tryz.underlying5,
  a5 := Tryz.isAgg5,
  z5 := Tryz.sizeOf5,
  v5 := Tryz.zeroValue5,
  t9 := Tryz.underlying9,
  a9 := Tryz.isAgg9,
  z9 := Tryz.sizeOf9,
  v9 := Tryz.zeroValue9,
  t22 := Tryz.underlying67,
  a22 := Tryz.isAgg67,
  z22 := Tryz.sizeOf67,
  v22 := Tryz.zeroValue67,
  t25 := Tryz.underlying123,
  a25 := Tryz.isAgg123,
  z25 := Tryz.sizeOf123,
  v25 := Tryz.zeroValue123,
  t39 := Tryz.underlying155,
  a39 := Tryz.isAgg155,
  z39 := Tryz.sizeOf155,
  v39 := Tryz.zeroValue155,
  t45 := Tryz.underlying231,
  a45 := Tryz.isAgg231,
  z45 := Tryz.sizeOf231,
  v45 := Tryz.zeroValue231,
  t46 := Tryz.underlying232,
  a46 := Tryz.isAgg232,
  z46 := Tryz.sizeOf232,
  v46 := Tryz.zeroValue232,
  t50 := Tryz.underlying128,
  a50 := Tryz.isAgg128,
  z50 := Tryz.sizeOf128,
  v50 := Tryz.zeroValue128,
  t53 := Tryz.underlying239,
  a53 := Tryz.isAgg239,
  z53 := Tryz.sizeOf239,
  v53 := Tryz.zeroValue239,
  t55 := Tryz.underlying30,
  a55 := Tryz.isAgg30,
  z55 := Tryz.sizeOf30,
  v55 := Tryz.zeroValue30,
  t66 := Tryz.underlying277,
  a66 := Tryz.isAgg277,
  z66 := Tryz.sizeOf277,
  v66 := Tryz.zeroValue277,
  t70 := Tryz.underlying281,
  a70 := Tryz.isAgg281,
  z70 := Tryz.sizeOf281,
  v70 := Tryz.zeroValue281,
  t76 := Tryz.underlying297,
  a76 := Tryz.isAgg297,
  z76 := Tryz.sizeOf297,
  v76 := Tryz.zeroValue297,
  t77 := Tryz.underlying298,
  a77 := Tryz.isAgg298,
  z77 := Tryz.sizeOf298,
  v77 := Tryz.zeroValue298 }
end Go.Proofs
namespace Go.Am
open Go.Proofs

theorem dedupA_snoc : ∀ (l : List Addr4) (x y : Addr4), dedupA (l ++ [x, y]) = if x.hi = y.hi ∧ x.lo = y.lo then dedupA (l ++ [x]) else dedupA (l ++ [x]) ++ [y]
  | [], x, y => by
    simp only [List.nil_append, dedupA]
    split
    · rename_i h
      rw [(Addr4.eq_iff x y).2 h]
    · rfl
  | [a], x, y => by
    have := dedupA_snoc [] x y
    simp only [List.nil_append, List.cons_append, dedupA] at this ⊢
    rw [this]
    by_cases h1 : x.hi = y.hi ∧ x.lo = y.lo <;> by_cases h2 : a.hi = x.hi ∧ a.lo = x.lo <;> simp [h1, h2]
  | a :: b :: l, x, y => by
    have := dedupA_snoc (b :: l) x y
    simp only [List.cons_append, dedupA] at this ⊢
    rw [this]
    by_cases h1 : x.hi = y.hi ∧ x.lo = y.lo <;> by_cases h2 : a.hi = b.hi ∧ a.lo = b.lo <;> simp [h1, h2]
theorem dedupA_take {l : List Addr4} {j : Nat} (h : j + 1 < l.length) : dedupA (l.take (j + 2)) = if l[j + 1] = l[j] then dedupA (l.take (j + 1)) else dedupA (l.take (j + 1)) ++ [l[j + 1]] := by
  have a1 : l.take (j + 2) = l.take (j + 1) ++ [l[j + 1]] := by rw [show j + 2 = (j + 1) + 1 from rfl, List.take_add_one, List.getElem?_eq_getElem h]; rfl
  have a2 : l.take (j + 1) = l.take j ++ [l[j]] := by rw [List.take_add_one, List.getElem?_eq_getElem (by omega)]; rfl
  have e1 : l.take (j + 2) = l.take j ++ [l[j], l[j + 1]] := by rw [a1, a2, List.append_assoc]; rfl
  rw [e1, a2, dedupA_snoc]
  by_cases hh : l[j + 1] = l[j]
  · rw [if_pos ((Addr4.eq_iff _ _).1 hh.symm), if_pos hh]
  · rw [if_neg (fun x => hh ((Addr4.eq_iff _ _).2 x).symm), if_neg hh]
theorem dedupA_small {l : List Addr4} (h : l.length < 2) : dedupA l = l := by
  match l, h with
  | [], _ => rfl
  | [x], _ => rfl
structure CmpdA (xs C : List Addr4) (k j : Nat) : Prop where
  len : C.length = xs.length
  k1 : 1 ≤ k
  kj : k + 1 ≤ j
  jl : j ≤ xs.length
  pre : C.take k = dedupA (xs.take j)
  suf : ∀ i, j ≤ i + 1 → C[i]? = xs[i]?
theorem CmpdA.get {xs C : List Addr4} {k j i : Nat} (h : CmpdA xs C k j) (hi : j ≤ i + 1) (hx : i < xs.length) (hc : i < C.length) : C[i] = xs[i] := by
  have := h.suf i hi
  rw [List.getElem?_eq_getElem hx, List.getElem?_eq_getElem hc] at this
  exact Option.some.inj this
theorem CmpdA.skip {xs C : List Addr4} {k j : Nat} (h : CmpdA xs C k (j + 1)) (hj : j + 1 < xs.length) (he : xs[j + 1] = xs[j]) : CmpdA xs C k (j + 2) := by
  obtain ⟨a1, a2, a3, a4, a5, a6⟩ := h
  refine ⟨a1, a2, by omega, by omega, ?_, fun i hi => a6 i (by omega)⟩
  rw [dedupA_take hj, if_pos he, a5]
theorem CmpdA.put {xs C : List Addr4} {k j : Nat} (h : CmpdA xs C k (j + 1)) (hj : j + 1 < xs.length) (he : ¬ xs[j + 1] = xs[j]) : CmpdA xs (C.set k xs[j + 1]) (k + 1) (j + 2) := by
  obtain ⟨a1, a2, a3, a4, a5, a6⟩ := h
  refine ⟨by simpa using a1, by omega, by omega, by omega, ?_, fun i hi => ?_⟩
  · rw [dedupA_take hj, if_neg he, ← a5, List.take_add_one, List.getElem?_set_self (by omega), List.take_set_of_le (Nat.le_refl _)]
    rfl
  · rw [List.getElem?_set_ne (by omega)]
    exact a6 i (by omega)
set_option maxRecDepth 8000 in
set_option maxHeartbeats 2000000 in
theorem compactA_spec (l : List Addr4) (hl : l.length ≤ 1000000000) :
    FSpec Tryz.prog 112 [.row 0] [.row 32 2 (l.map Addr4.iv)] (.im (.sl 2 ((dedupA l).map Addr4.iv))) [.gone] := by
  refine FSpec.of_o (q := [(6, .n 9), (11, .n 9)]) Tryz.func112 (by kernel_rfl) rfl Tryz.ntmps112 Tryz.results112 hP (by kernel_rfl) (by simp) (by first | rfl | simp) ?_
  simp -implicitDefEqProofs
  refine ⟨fun h => ?_, fun h2 => ?_⟩
  · refine EndO.ret [0] [0] (.row 0) (by simp) ?_
    simp -implicitDefEqProofs [dedupA_small (show l.length < 2 by omega)]
  refine LoopK.os (fun k : Nat => [(0, .row 0), (3, .int .i64 k)])
    (fun _ => [.row 32 2 (l.map Addr4.iv)])
    (fun k => 1 ≤ k ∧ k ≤ l.length ∧ dedupA (l.take k) = l.take k) (fun k => l.length - k) 1 [0] ⟨Nat.le_refl _, by omega, dedupA_small (by simp; omega)⟩ (by simp) ?_
  rintro k ⟨hk1, hk, hR⟩
  by_cases hlt : k < l.length
  · obtain ⟨j, hj⟩ : ∃ j, k = j + 1 := ⟨k - 1, by omega⟩
    have e1 : IntKind.i64.wrap ((k : Int) - 1) = (j : Nat) := by rw [wrap64 (by omega) (by omega)]; omega
    have e2 : IntKind.i64.wrap ((k : Int) + 1) = (k + 1 : Nat) := wrap64 (by omega) (by omega)
    have hjl : j < l.length := by omega
    have hd : dedupA (l.take (k + 1)) = if l[k] = l[j] then dedupA (l.take k) else dedupA (l.take k) ++ [l[k]] := by
      subst hj; exact dedupA_take hlt
    have heqv : l[k] = l[j] ↔ l[k].hi = l[j].hi ∧ l[k].lo = l[j].lo := Addr4.eq_iff _ _
    simp -implicitDefEqProofs [hlt, hjl, e1, e2]
    refine ⟨fun g1 g2 => ⟨hk, ?_⟩, fun hne => ?_⟩
    · rw [if_pos (heqv.2 ⟨g1, g2⟩)] at hd
      have hd' := hd
      clear e1 e2 hd
      refine LoopK.os (fun g : Nat × Nat × List Addr4 => [(0, .row 0), (3, .int .i64 g.1), (4, .sub 0 2 k (l.length - k)), (5, .int .i64 g.2.1)])
        (fun g => [.row 32 2 (g.2.2.map Addr4.iv)])
        (fun g => CmpdA l g.2.2 g.1 (k + g.2.1) ∧ 1 ≤ g.2.1) (fun g => l.length - (k + g.2.1)) (k, 1, l) [0] ⟨⟨rfl, hk1, Nat.le_refl _, hlt, by rw [hd', hR], fun i _ => rfl⟩, Nat.le_refl _⟩ (by simp) ?_
      rintro ⟨k', k2, C⟩ ⟨hC, hk2⟩
      simp only at hC hk2
      have c0 := hC.len
      have c1 := hC.k1
      have c2 := hC.kj
      have c3 := hC.jl
      by_cases hl2 : k2 < l.length - k
      · obtain ⟨i2, hi2⟩ : ∃ i2, k2 = i2 + 1 := ⟨k2 - 1, by omega⟩
        have e1 : IntKind.i64.wrap ((k2 : Int) - 1) = (i2 : Nat) := by rw [wrap64 (by omega) (by omega)]; omega
        have e2 : IntKind.i64.wrap ((k2 : Int) + 1) = (k2 + 1 : Nat) := wrap64 (by omega) (by omega)
        have e3 : IntKind.i64.wrap ((k' : Int) + 1) = (k' + 1 : Nat) := wrap64 (by omega) (by omega)
        have b1 : k + k2 < C.length := by omega
        have b2 : k + i2 < C.length := by omega
        have b3 : i2 < l.length - k := by omega
        have b4 : k' < C.length := by omega
        simp -implicitDefEqProofs [hl2, e1, e2, e3, b1, b2, b3, b4]
        have g1 := hC.get (i := k + k2) (by omega) (by omega) b1
        have g2 := hC.get (i := k + i2) (by omega) (by omega) b2
        have heq2 : C[k + k2] = C[k + i2] ↔ C[k + k2].hi = C[k + i2].hi ∧ C[k + k2].lo = C[k + i2].lo := Addr4.eq_iff _ _
        have hmod := mod_set Addr4.iv C C[k + k2] k' (fun x => IV.sc (.int .u64 C[k + k2].hi) :: IV.sc (.int .u64 C[k + k2].lo) :: List.drop 2 x) (fun x => rfl)
        subst hi2
        refine ⟨by omega, fun hne => ⟨by omega, ?_⟩, fun h1 h3 => ?_⟩
        · have hne : ¬ C[k + (i2 + 1)] = C[k + i2] := fun h => by have := heq2.1 h; rcases hne with h4 | h4 <;> simp_all
          refine Again.os (k' + 1, i2 + 1 + 1, C.set k' C[k + (i2 + 1)]) [0] ⟨?_, by show 1 ≤ i2 + 1 + 1; omega⟩ (by show l.length - (k + (i2 + 1 + 1)) < l.length - (k + (i2 + 1)); omega) ?_
          · rw [g1]
            exact CmpdA.put (j := k + i2) hC (by omega) (by rw [← g2]; exact fun h => hne (g1.trans h))
          · show EntO _ _ _ _ _ _ _
            simp -implicitDefEqProofs [e2, e3]
            rw [hmod, List.map_set]
            rfl
        · have he := heq2.2 ⟨h1, h3⟩
          refine Again.os (k', i2 + 1 + 1, C) [0] ⟨?_, by show 1 ≤ i2 + 1 + 1; omega⟩ (by show l.length - (k + (i2 + 1 + 1)) < l.length - (k + (i2 + 1)); omega) ?_
          · exact CmpdA.skip (j := k + i2) hC (by omega) (by rw [← g2, ← he]; exact g1.symm)
          · simp -implicitDefEqProofs [e2]
      · have hkl : k + k2 = l.length := by omega
        have hpre := hC.pre
        rw [hkl, List.take_length] at hpre
        simp -implicitDefEqProofs [hl2]
        refine ⟨by omega, by omega, .inr ⟨by omega, ?_⟩⟩
        refine EndO.ret [1] [0] (.row 1) (by simp) ?_
        have ht : List.take k' (List.take k' (C.map Addr4.iv) ++ (List.replicate (C.length - k') [IV.sc (.int .u64 0), IV.sc (.int .u64 0)] ++ List.drop (k' + (C.length - k')) (C.map Addr4.iv))) = (dedupA l).map Addr4.iv := by
          rw [List.take_append_of_le_length (by simp; omega), List.take_take, Nat.min_self, ← hpre, List.map_take]
        simp -implicitDefEqProofs [ht]
    · rw [if_neg (fun h => by obtain ⟨h1, h2⟩ := heqv.1 h; exact hne h1 h2), hR] at hd
      have ht : l.take k ++ [l[k]] = l.take (k + 1) := by rw [List.take_add_one, List.getElem?_eq_getElem hlt]; rfl
      refine Again.os (k + 1) [0] ⟨by omega, hlt, by rw [hd, ht]⟩ (by omega) ?_
      simp -implicitDefEqProofs [e2]
  · have : k = l.length := by omega
    subst this
    rw [List.take_length] at hR
    simp -implicitDefEqProofs
    refine EndO.ret [0] [0] (.row 0) (by simp) ?_
    simp -implicitDefEqProofs [hR]
def unA : List IV → Addr4
  | [.sc (.int _ h), .sc (.int _ l)] => ⟨h, l⟩
  | _ => ⟨0, 0⟩
theorem unA_iv (a : Addr4) : unA a.iv = a := rfl
set_option maxRecDepth 8000 in
theorem sortFA_spec (l : List Addr4) (hw : wfL l) (hne : l ≠ []) (hl : l.length ≤ 1000000000) :
    FSpec Tryz.prog 111 [.row 0, .fn 70 []] [.row 32 2 (l.map Addr4.iv)] (.tup []) [.row 32 2 ((msA l).map Addr4.iv)] := by
  have hmem : ∀ x, x ∈ l.map Addr4.iv → ∃ a, a ∈ l ∧ x = a.iv := fun x hx => by
    obtain ⟨a, h1, h2⟩ := List.mem_map.1 hx
    exact ⟨a, h1, h2.symm⟩
  have hun : ∀ zs : List Addr4, (zs.map Addr4.iv).map unA = zs := fun zs => by
    rw [List.map_map]
    conv => rhs; rw [← List.map_id zs]
    exact List.map_congr_left fun a _ => unA_iv a
  refine sortFuncK Tryz.sortAddr 32 2 (by decide) (fun w => by first | rfl | exact Tryz.isAgg32 w) (fun w => by first | rfl | exact Tryz.sizeOf32 w) _ _ (fun x y => cmpA (unA x) (unA y)) (fun x => (unA x).num) (enters_of Tryz.func70 (by kernel_rfl) rfl) (by simpa using hne) ?_ ?_ (by simp; omega) ?_
  · intro x y hx hy
    obtain ⟨a, _, rfl⟩ := hmem x hx
    obtain ⟨b, _, rfl⟩ := hmem y hy
    exact cmpA_spec a b
  · intro x y hx hy
    obtain ⟨a, ha, rfl⟩ := hmem x hx
    obtain ⟨b, hb, rfl⟩ := hmem y hy
    have := cmpA_lt (hw a ha) (hw b hb)
    simp only [unA_iv]
    omega
  · intro ys hp hs
    have hy : ys = (ys.map unA).map Addr4.iv := by
      rw [List.map_map]
      conv => lhs; rw [← List.map_id ys]
      refine List.map_congr_left fun y hy => ?_
      obtain ⟨a, _, rfl⟩ := hmem y (hp.mem_iff.1 hy)
      rfl
    have hpz : (ys.map unA).Perm l := by
      have := hp.map unA
      rw [hun] at this
      exact this
    rw [hy]
    congr 1
    refine perm_num (hpz.trans (msA_perm l).symm) (fun x hx => hw x (hpz.mem_iff.1 hx)) ?_ (msA_sorted l)
    rw [List.pairwise_map]
    exact hs.imp fun h => by omega
end Go.Am


set_option linter.unusedVariables false
set_option linter.unusedSimpArgs false
set_option pp.deepTerms false
set_option pp.deepTerms.threshold 40
namespace Go.Am
open Go.Proofs

end Go.Am


set_option linter.unusedVariables false
set_option linter.unusedSimpArgs false
set_option pp.deepTerms false
set_option pp.deepTerms.threshold 40
namespace Go.Am
open Go.Proofs

theorem below_all : ((List.range 129).all fun n => (below (n : Int)).hi == (ofN (2 ^ n - 1)).hi && (below (n : Int)).lo == (ofN (2 ^ n - 1)).lo) = true := by kernel_rfl
theorem below_ofN {n : Nat} (h : n ≤ 128) : below (n : Int) = ofN (2 ^ n - 1) := by
  have := List.all_eq_true.1 below_all n (List.mem_range.2 (by omega))
  simp only [Bool.and_eq_true, beq_iff_eq] at this
  exact (Addr4.eq_iff _ _).2 this
theorem or_mask {x k : Nat} (hk : k ≤ 64) (h1 : x % 2 ^ k = 0) (h2 : x < 18446744073709551616) : x ||| (2 ^ k - 1) = x + (2 ^ k - 1) ∧ x + (2 ^ k - 1) < 18446744073709551616 := by
  have hp := Nat.two_pow_pos k
  obtain ⟨q, rfl⟩ := Nat.dvd_of_mod_eq_zero h1
  constructor
  · exact (Nat.two_pow_add_eq_or_of_lt (by omega) q).symm
  · have h64 : (18446744073709551616 : Nat) = 2 ^ k * 2 ^ (64 - k) := by
      rw [← Nat.pow_add, show k + (64 - k) = 64 by omega]
    rw [h64] at h2 ⊢
    have h3 : q < 2 ^ (64 - k) := Nat.lt_of_mul_lt_mul_left h2
    have h4 : 2 ^ k * (q + 1) ≤ 2 ^ k * 2 ^ (64 - k) := Nat.mul_le_mul_left _ h3
    rw [Nat.mul_add, Nat.mul_one] at h4
    omega
theorem or_nat {x y : Int} (h0 : 0 ≤ x) (h1 : x < 18446744073709551616) (h2 : 0 ≤ y) (h3 : y < 18446744073709551616) : or64 x y = ((x.toNat ||| y.toNat : Nat) : Int) := by
  unfold or64 orI
  have e1 : (BitVec.ofInt 64 x).toNat = x.toNat := by rw [BitVec.toNat_ofInt]; simp; omega
  have e2 : (BitVec.ofInt 64 y).toNat = y.toNat := by rw [BitVec.toNat_ofInt]; simp; omega
  show IntKind.u64.wrap (((BitVec.ofInt 64 x ||| BitVec.ofInt 64 y).toNat : Nat) : Int) = _
  have hb := (BitVec.ofInt 64 x ||| BitVec.ofInt 64 y).isLt
  rw [wrapU (by omega) (by omega), BitVec.toNat_or, e1, e2]
theorem last_or {p : Pfx} (hw : p.addr.wf) (h : checkP p = 0) : or64 p.addr.hi (host p).hi = (ofN (lastN p)).hi ∧ or64 p.addr.lo (host p).lo = (ofN (lastN p)).lo := by
  obtain ⟨l0, l1, l2⟩ := checkP_len h
  have hh := checkP_host hw h
  have hW : wideN p.six ≤ 128 := by cases p.six <;> decide
  obtain ⟨n, hn⟩ : ∃ n, n = wideN p.six - p.len.toNat := ⟨_, rfl⟩
  have hhost : host p = ofN (2 ^ n - 1) := by
    unfold host
    rw [wide_N, show (wideN p.six : Int) - p.len = n by omega, below_ofN (by omega)]
  unfold lastN
  rw [← hn] at hh ⊢
  rw [hhost]
  obtain ⟨a1, a2, a3, a4⟩ := hw
  have hp := Nat.two_pow_pos n
  have hnum : p.addr.num = p.addr.hi.toNat * 18446744073709551616 + p.addr.lo.toNat := rfl
  have hle : 2 ^ n ≤ 2 ^ 128 := Nat.pow_le_pow_right (by omega) (by omega)
  have h128 : (2 : Nat) ^ 128 = 340282366920938463463374607431768211456 := by decide
  have h64 : (2 : Nat) ^ 64 = 18446744073709551616 := by decide
  unfold ofN
  simp only
  rw [or_nat a1 a2 (by omega) (by omega), or_nat a3 a4 (by omega) (by omega)]
  simp only [Int.toNat_natCast]
  rw [hnum] at hh ⊢
  have hH : p.addr.hi.toNat < 18446744073709551616 := by omega
  have hL : p.addr.lo.toNat < 18446744073709551616 := by omega
  generalize p.addr.hi.toNat = H at *
  generalize p.addr.lo.toNat = L at *
  by_cases c : n ≤ 64
  · have hle64 : 2 ^ n ≤ 2 ^ 64 := Nat.pow_le_pow_right (by omega) c
    have hd : (2 : Nat) ^ 64 = 2 ^ n * 2 ^ (64 - n) := by rw [← Nat.pow_add]; congr 1; omega
    have hLm : L % 2 ^ n = 0 := by
      rw [← h64, hd, show H * (2 ^ n * 2 ^ (64 - n)) = 2 ^ n * (H * 2 ^ (64 - n)) by rw [Nat.mul_left_comm], Nat.mul_add_mod] at hh
      exact hh
    obtain ⟨o1, o2⟩ := or_mask c hLm hL
    have e1 : (2 ^ n - 1) / 18446744073709551616 = 0 := by omega
    have e2 : (2 ^ n - 1) % 18446744073709551616 = 2 ^ n - 1 := by omega
    rw [e1, e2, o1, Nat.or_zero]
    constructor <;> congr 1 <;> omega
  · have hd : (2 : Nat) ^ n = 18446744073709551616 * 2 ^ (n - 64) := by rw [← h64, ← Nat.pow_add]; congr 1; omega
    have hp2 := Nat.two_pow_pos (n - 64)
    rw [hd, Nat.mod_mul] at hh
    have hL0 : L = 0 := by omega
    subst hL0
    have hHm : H % 2 ^ (n - 64) = 0 := by
      have : (H * 18446744073709551616 + 0) / 18446744073709551616 = H := by omega
      rw [this] at hh
      omega
    obtain ⟨o1, o2⟩ := or_mask (show n - 64 ≤ 64 by omega) hHm hH
    rw [hd]
    have e1 : (18446744073709551616 * 2 ^ (n - 64) - 1) / 18446744073709551616 = 2 ^ (n - 64) - 1 := by omega
    have e2 : (18446744073709551616 * 2 ^ (n - 64) - 1) % 18446744073709551616 = 18446744073709551615 := by omega
    rw [e1, e2, o1, Nat.zero_or]
    constructor <;> congr 1 <;> omega
theorem both_spec (a b : Addr4) : FSpec Tryz.prog 119 [a.av, b.av] [] (.agg [.int .u64 (or64 a.hi b.hi), .int .u64 (or64 a.lo b.lo)]) [] := by
  refine FSpec.of_flat (q := []) Tryz.func119 (by kernel_rfl) rfl Tryz.ntmps119 Tryz.results119 hP (by kernel_rfl) (by simp) (by first | rfl | simp) ?_
  simp -implicitDefEqProofs
theorem lastP_walk (p : Pfx) (Hh R : Addr4) (h1 : FSpec Tryz.prog 73 [p.av] [] (.int .i64 0) []) (h2 : FSpec Tryz.prog 108 [p.av] [] Hh.av []) (h3 : FSpec Tryz.prog 119 [p.addr.av, Hh.av] [] R.av []) :
    FSpec Tryz.prog 82 [p.av] [] (.tup [R.av, .int .i64 0]) [] := by
  refine FSpec.of_flat (q := [(4, .n 4)]) Tryz.func82 (by kernel_rfl) rfl Tryz.ntmps82 Tryz.results82 hP (by kernel_rfl) (by simp) (by first | rfl | simp) ?_
  simp -implicitDefEqProofs
  first | refine CallK.same (h1) rfl rfl ?_ | refine CallQ.same (h1) rfl rfl ?_ | refine CallQG.same _ (h1) rfl ?_ | refine CallG.same _ (h1) rfl ?_ | refine CallK.pv (h1) rfl rfl ?_
  simp -implicitDefEqProofs
  first | refine CallK.same (h2) rfl rfl ?_ | refine CallQ.same (h2) rfl rfl ?_ | refine CallQG.same _ (h2) rfl ?_ | refine CallG.same _ (h2) rfl ?_ | refine CallK.pv (h2) rfl rfl ?_
  simp -implicitDefEqProofs
  first | refine CallK.same (h3) rfl rfl ?_ | refine CallQ.same (h3) rfl rfl ?_ | refine CallQG.same _ (h3) rfl ?_ | refine CallG.same _ (h3) rfl ?_ | refine CallK.pv (h3) rfl rfl ?_
  simp -implicitDefEqProofs
theorem lastP_bad (p : Pfx) (h1 : FSpec Tryz.prog 73 [p.av] [] (.int .i64 2) []) : FSpec Tryz.prog 82 [p.av] [] (.tup [zeroA.av, .int .i64 2]) [] := by
  refine FSpec.of_flat (q := [(4, .n 4)]) Tryz.func82 (by kernel_rfl) rfl Tryz.ntmps82 Tryz.results82 hP (by kernel_rfl) (by simp) (by first | rfl | simp) ?_
  simp -implicitDefEqProofs
  first | refine CallK.same (h1) rfl rfl ?_ | refine CallQ.same (h1) rfl rfl ?_ | refine CallQG.same _ (h1) rfl ?_ | refine CallG.same _ (h1) rfl ?_ | refine CallK.pv (h1) rfl rfl ?_
  simp -implicitDefEqProofs [zeroA]
theorem last_spec (p : Pfx) (hw : p.addr.wf) : FSpec Tryz.prog 82 [p.av] [] (.tup [(lastF p).1.av, .int .i64 (lastF p).2]) [] := by
  have h1 := checkP_spec p
  unfold lastF
  by_cases hc : checkP p = 0
  · obtain ⟨l0, l1, l2⟩ := checkP_len hc
    rw [← wide_N] at l1
    have h3 := both_spec p.addr (host p)
    obtain ⟨o1, o2⟩ := last_or hw hc
    rw [o1, o2] at h3
    rw [if_pos hc]
    rw [hc] at h1
    exact lastP_walk p _ _ h1 (host_spec p l1 l0) h3
  · rw [if_neg hc]
    rw [checkP_two hc] at h1
    exact lastP_bad p h1
theorem add64_ext (x : Int) (h0 : 0 ≤ x) : ExtV Tryz.prog 146 [.int .u64 x, .int .u64 1, .int .u64 0] (.tuple #[.int .u64 ((x + 1) % 18446744073709551616), .int .u64 ((x + 1) / 18446744073709551616)]) := fun w => by
  have := run_add64 (P := Tryz.prog) x 1 0 h0 (by decide) (by decide) (by decide) w
  rw [Int.add_zero] at this
  rw [run_callFunc_extern (e := add64Entry) Tryz.func146 (by kernel_rfl) (by kernel_rfl) (by kernel_rfl) (by kernel_rfl)]
  show ((add64Entry #[.int .u64 x, .int .u64 1, .int .u64 0]).run Tryz.prog w).andThen _ = _
  rw [this]
  rfl
theorem sub64_ext (x : Nat) : ExtV Tryz.prog 148 [.int .u64 x, .int .u64 1, .int .u64 0] (.tuple #[.int .u64 (((x + 18446744073709551616 - 1) % 18446744073709551616 : Nat) : Int), .int .u64 ((if x < 1 then 1 else 0 : Nat) : Int)]) := fun w => by
  have := run_sub64 (P := Tryz.prog) x 1 0 (by decide) w
  rw [run_callFunc_extern (e := sub64Entry) Tryz.func148 (by kernel_rfl) (by kernel_rfl) (by kernel_rfl) (by kernel_rfl)]
  show ((sub64Entry #[.int .u64 x, .int .u64 (1 : Nat), .int .u64 (0 : Nat)]).run Tryz.prog w).andThen _ = _
  rw [this]
  rfl
end Go.Am


set_option linter.unusedVariables false
set_option linter.unusedSimpArgs false
set_option pp.deepTerms false
set_option pp.deepTerms.threshold 40
namespace Go.Am
open Go.Proofs

theorem vrep_tup2 (x y : Value) (m : Nm) (c : Go.Addr → Value → Prop) : VRep m c (.tup [.im (.sc x), .im (.sc y)]) (.tuple #[x, y]) := by
  refine .tup rfl fun j z u h1 h2 => ?_
  match j with
  | 0 => simp at h1 h2; subst h1 h2; exact .im .sc
  | 1 => simp at h1 h2; subst h1 h2; exact .im .sc
  | j + 2 => simp at h1
set_option maxRecDepth 8000 in
theorem nextP_walk (six : Bool) (a B : Addr4) (hw : a.wf) (hr : rightA six a = true) (hB : FSpec Tryz.prog 145 [.int .i64 (wide six)] [] B.av []) :
    FSpec Tryz.prog 110 [.bool six, a.av] [] (.tup [(if a = B then zeroA else ⟨IntKind.u64.wrap (a.hi + (a.lo + 1) / 18446744073709551616), (a.lo + 1) % 18446744073709551616⟩ : Addr4).av, .int .i64 (if a = B then 3 else 0)]) [] := by
  have h1 := rightA_spec six a
  rw [hr] at h1
  have h2 := wide_spec six
  refine FSpec.of_flat (q := [(3, .n 4)]) Tryz.func110 (by kernel_rfl) rfl Tryz.ntmps110 Tryz.results110 hP (by kernel_rfl) (by simp) (by first | rfl | simp) ?_
  simp -implicitDefEqProofs
  first | refine CallK.same (h1) rfl rfl ?_ | refine CallQ.same (h1) rfl rfl ?_ | refine CallQG.same _ (h1) rfl ?_ | refine CallG.same _ (h1) rfl ?_ | refine CallK.pv (h1) rfl rfl ?_
  simp -implicitDefEqProofs
  first | refine CallK.same (h2) rfl rfl ?_ | refine CallQ.same (h2) rfl rfl ?_ | refine CallQG.same _ (h2) rfl ?_ | refine CallG.same _ (h2) rfl ?_ | refine CallK.pv (h2) rfl rfl ?_
  simp -implicitDefEqProofs
  first | refine CallK.same (hB) rfl rfl ?_ | refine CallQ.same (hB) rfl rfl ?_ | refine CallQG.same _ (hB) rfl ?_ | refine CallG.same _ (hB) rfl ?_ | refine CallK.pv (hB) rfl rfl ?_
  simp -implicitDefEqProofs
  have he := Addr4.eq_iff a B
  refine ⟨fun h1 h2 => ?_, fun h => ?_⟩
  · have hab := he.2 ⟨h1, h2⟩
    simp [zeroA, hab]
  · have hne : ¬ a = B := fun e => h (he.1 e).1 (he.1 e).2
    refine CallX.ext (add64_ext a.lo hw.2.2.1) (vrep_tup2 _ _) rfl ?_
    simp -implicitDefEqProofs [hne]
theorem nextP_bad (six : Bool) (a : Addr4) (hr : rightA six a = false) : FSpec Tryz.prog 110 [.bool six, a.av] [] (.tup [zeroA.av, .int .i64 2]) [] := by
  have h1 := rightA_spec six a
  rw [hr] at h1
  refine FSpec.of_flat (q := [(3, .n 4)]) Tryz.func110 (by kernel_rfl) rfl Tryz.ntmps110 Tryz.results110 hP (by kernel_rfl) (by simp) (by first | rfl | simp) ?_
  simp -implicitDefEqProofs
  first | refine CallK.same (h1) rfl rfl ?_ | refine CallQ.same (h1) rfl rfl ?_ | refine CallQG.same _ (h1) rfl ?_ | refine CallG.same _ (h1) rfl ?_ | refine CallK.pv (h1) rfl rfl ?_
  simp -implicitDefEqProofs [zeroA]
theorem below_max (six : Bool) {a : Addr4} (hw : a.wf) : a = below (wide six) ↔ a.num = maxN six := by
  have hW : wideN six ≤ 128 := by cases six <;> decide
  rw [wide_N, below_ofN hW]
  have hlt := maxN_lt six
  constructor
  · intro h
    rw [h]
    exact num_ofN hlt
  · intro h
    rw [← ofN_num hw, h]
    rfl
theorem inc_ofN {a : Addr4} (hw : a.wf) (hlt : a.num + 1 < 340282366920938463463374607431768211456) : (⟨IntKind.u64.wrap (a.hi + (a.lo + 1) / 18446744073709551616), (a.lo + 1) % 18446744073709551616⟩ : Addr4) = ofN (a.num + 1) := by
  obtain ⟨h1, h2, h3, h4⟩ := hw
  unfold ofN
  unfold Addr4.num at hlt ⊢
  rw [wrapU (by omega) (by omega)]
  refine (Addr4.eq_iff _ _).2 ⟨?_, ?_⟩
  · show a.hi + (a.lo + 1) / 18446744073709551616 = _
    simp only
    omega
  · show (a.lo + 1) % 18446744073709551616 = _
    simp only
    omega
theorem next_spec (six : Bool) (a : Addr4) (hw : a.wf) : FSpec Tryz.prog 110 [.bool six, a.av] [] (.tup [(nextF six a).1.av, .int .i64 (nextF six a).2]) [] := by
  unfold nextF
  cases hr : rightA six a with
  | false => exact nextP_bad six a hr
  | true =>
    have h := nextP_walk six a _ hw hr (below_spec (wide six) (wide_le six).1)
    have hm := below_max six hw
    have hlt := maxN_lt six
    have hle := maxN_all hw hr
    rw [if_neg (by decide)]
    by_cases hn : a.num = maxN six
    · simp only [if_pos (hm.2 hn)] at h
      rw [if_pos hn]
      exact h
    · simp only [if_neg (fun e => hn (hm.1 e)), inc_ofN hw (show a.num + 1 < 340282366920938463463374607431768211456 by omega)] at h
      rw [if_neg hn]
      exact h
set_option maxRecDepth 8000 in
theorem prevP_walk (six : Bool) (a : Addr4) (hw : a.wf) (hr : rightA six a = true) :
    FSpec Tryz.prog 116 [.bool six, a.av] [] (.tup [(if a = zeroA then zeroA else ⟨IntKind.u64.wrap (a.hi - (if a.lo.toNat < 1 then 1 else 0 : Nat)), ((a.lo.toNat + 18446744073709551616 - 1) % 18446744073709551616 : Nat)⟩ : Addr4).av, .int .i64 (if a = zeroA then 3 else 0)]) [] := by
  have h1 := rightA_spec six a
  rw [hr] at h1
  refine FSpec.of_flat (q := []) Tryz.func116 (by kernel_rfl) rfl Tryz.ntmps116 Tryz.results116 hP (by kernel_rfl) (by simp) (by first | rfl | simp) ?_
  simp -implicitDefEqProofs
  first | refine CallK.same (h1) rfl rfl ?_ | refine CallQ.same (h1) rfl rfl ?_ | refine CallQG.same _ (h1) rfl ?_ | refine CallG.same _ (h1) rfl ?_ | refine CallK.pv (h1) rfl rfl ?_
  simp -implicitDefEqProofs
  have he := Addr4.eq_iff a zeroA
  refine ⟨fun h1 h2 => ?_, fun h => ?_⟩
  · have hab := he.2 ⟨h1, h2⟩
    simp [zeroA, hab]
  · have hne : ¬ a = zeroA := fun e => h (he.1 e).1 (he.1 e).2
    have hx := sub64_ext a.lo.toNat
    rw [Int.toNat_of_nonneg hw.2.2.1] at hx
    refine CallX.ext hx (vrep_tup2 _ _) rfl ?_
    simp -implicitDefEqProofs [hne]
theorem prevP_bad (six : Bool) (a : Addr4) (hr : rightA six a = false) : FSpec Tryz.prog 116 [.bool six, a.av] [] (.tup [zeroA.av, .int .i64 2]) [] := by
  have h1 := rightA_spec six a
  rw [hr] at h1
  refine FSpec.of_flat (q := []) Tryz.func116 (by kernel_rfl) rfl Tryz.ntmps116 Tryz.results116 hP (by kernel_rfl) (by simp) (by first | rfl | simp) ?_
  simp -implicitDefEqProofs
  first | refine CallK.same (h1) rfl rfl ?_ | refine CallQ.same (h1) rfl rfl ?_ | refine CallQG.same _ (h1) rfl ?_ | refine CallG.same _ (h1) rfl ?_ | refine CallK.pv (h1) rfl rfl ?_
  simp -implicitDefEqProofs [zeroA]
theorem zero_num {a : Addr4} (hw : a.wf) : a = zeroA ↔ a.num = 0 := by
  obtain ⟨h1, h2, h3, h4⟩ := hw
  rw [Addr4.eq_iff]
  unfold Addr4.num zeroA
  simp only
  omega
theorem dec_ofN {a : Addr4} (hw : a.wf) (h0 : ¬ a.num = 0) : (⟨IntKind.u64.wrap (a.hi - (if a.lo.toNat < 1 then 1 else 0 : Nat)), ((a.lo.toNat + 18446744073709551616 - 1) % 18446744073709551616 : Nat)⟩ : Addr4) = ofN (a.num - 1) := by
  obtain ⟨h1, h2, h3, h4⟩ := hw
  unfold ofN
  unfold Addr4.num at h0 ⊢
  refine (Addr4.eq_iff _ _).2 ⟨?_, ?_⟩
  · show IntKind.u64.wrap _ = (((a.hi.toNat * 18446744073709551616 + a.lo.toNat - 1) / 18446744073709551616 : Nat) : Int)
    by_cases c : a.lo.toNat < 1
    · rw [if_pos c, wrapU (by omega) (by omega)]
      omega
    · rw [if_neg c, wrapU (by omega) (by omega)]
      omega
  · show (((a.lo.toNat + 18446744073709551616 - 1) % 18446744073709551616 : Nat) : Int) = (((a.hi.toNat * 18446744073709551616 + a.lo.toNat - 1) % 18446744073709551616 : Nat) : Int)
    omega
theorem prev_spec (six : Bool) (a : Addr4) (hw : a.wf) : FSpec Tryz.prog 116 [.bool six, a.av] [] (.tup [(prevF six a).1.av, .int .i64 (prevF six a).2]) [] := by
  unfold prevF
  cases hr : rightA six a with
  | false => exact prevP_bad six a hr
  | true =>
    have h := prevP_walk six a hw hr
    have hm := zero_num hw
    rw [if_neg (by decide)]
    by_cases hn : a.num = 0
    · simp only [if_pos (hm.2 hn)] at h
      rw [if_pos hn]
      exact h
    · simp only [if_neg (fun e => hn (hm.1 e))] at h
      rw [dec_ofN hw hn] at h
      rw [if_neg hn]
      exact h
end Go.Am


set_option linter.unusedVariables false
set_option linter.unusedSimpArgs false
set_option pp.deepTerms false
set_option pp.deepTerms.threshold 40
namespace Go.Am
open Go.Proofs

def aheadA (pv : Option Addr4) (a : Addr4) : Bool := match pv with | none => true | some p => decide (cmpA p a < 0)
def checkAL (six : Bool) : List Addr4 → Option Addr4 → Int
  | [], _ => 0
  | a :: t, pv => if !rightA six a || !aheadA pv a then 2 else checkAL six t (some a)
def prevA (l : List Addr4) (k : Nat) : Option Addr4 := if k = 0 then none else l[k - 1]?
def checkC (six : Bool) (l : List Addr4) : Int := if l.length = 0 ∨ 4096 < l.length ∨ ¬ l.head? = some zeroA then 2 else checkAL six l none
set_option maxRecDepth 4000 in
set_option maxHeartbeats 1000000 in
theorem checkC_loop (six : Bool) (l : List Addr4) (hwf : wfL l) (hl : 0 < l.length ∧ l.length ≤ 4096) (hz : l.head? = some zeroA) : FSpec Tryz.prog 38 [.bool six, .im (.sl 2 (l.map Addr4.iv))] [] (.int .i64 (checkAL six l none)) [] := by
  obtain ⟨c, t, hct⟩ : ∃ c t, l = c :: t := by cases l with | nil => cases hz | cons c t => exact ⟨c, t, rfl⟩
  have hc0 : c = zeroA := by rw [hct] at hz; simpa using hz
  have hg0 : (l.map Addr4.iv)[0]? = some [.sc (.int .u64 0), .sc (.int .u64 0)] := by rw [hct, hc0]; rfl
  have q1 : ¬ (l.length : Int) = 0 := by omega
  have q2 : ¬ (4096 : Int) < l.length := by omega
  have q3 : ¬ (l.length : Int) < 1 := by omega
  have q4 : decide ((4096 : Int) < l.length) = false := by simp; omega
  have q5 : decide ((l.length : Int) < 1) = false := by simp; omega
  have q6 : ((l.length : Int) == 0) = false := beq_eq_false_iff_ne.2 q1
  refine FSpec.of_flat (q := [(2, .n 13), (7, .n 14)]) Tryz.func38 (by kernel_rfl) rfl Tryz.ntmps38 Tryz.results38 hP (by kernel_rfl) (by simp) (by first | rfl | simp) ?_
  simp -implicitDefEqProofs [q1, q2, q3, q4, q5, q6, hg0]
  refine ⟨hl.1, ?_⟩
  refine LoopK.os (fun k : Nat => [(0, .bool six), (1, .im (.sl 2 (l.map Addr4.iv))), (24, .im (.sl 2 (l.map Addr4.iv))), (25, .int .i64 l.length), (26, .int .i64 k)])
    (fun _ => []) (fun k => k ≤ l.length ∧ checkAL six (l.drop k) (prevA l k) = checkAL six l none)
    (fun k => l.length - k) 0 [] ⟨Nat.zero_le _, by simp [prevA]⟩ (by simp) ?_
  rintro k ⟨hk, hR⟩
  by_cases hlt : k < l.length
  · have hw : IntKind.i64.wrap (k + 1) = (k + 1 : Nat) := wrap64 (by omega) (by omega)
    have hw1 : IntKind.i64.wrap (k - 1) = (k : Int) - 1 := wrap64 (by omega) (by omega)
    rw [List.drop_eq_getElem_cons hlt, checkAL] at hR
    obtain ⟨a, ha⟩ : ∃ a, l[k] = a := ⟨_, rfl⟩
    rw [ha] at hR
    have haw : a.wf := ha ▸ hwf _ (List.getElem_mem hlt)
    obtain ⟨y, hy, hyw, hp⟩ : ∃ y, l[k - 1]? = some y ∧ y.wf ∧ (0 < k → prevA l k = some y) := by
      refine ⟨l[k - 1]'(by omega), List.getElem?_eq_getElem (by omega), hwf _ (List.getElem_mem _), fun h => ?_⟩
      simp [prevA, show k ≠ 0 by omega, List.getElem?_eq_getElem (show k - 1 < l.length by omega)]
    have hp0 : k = 0 → prevA l k = none := by intro h; simp [prevA, h]
    have hah : aheadA (prevA l k) a = (decide (k = 0) || decide (cmpA y a < 0)) := by
      rcases Nat.eq_zero_or_pos k with e | e
      · rw [hp0 e]; simp [aheadA, e]
      · rw [hp e]; simp [aheadA, show k ≠ 0 by omega]
    have hnx : prevA l (k + 1) = some a := by simp [prevA, hlt, ha]
    have hgy : (l.map Addr4.iv)[k - 1]? = some y.iv := by rw [List.getElem?_map, hy]; rfl
    have h1 := rightA_spec six a
    have h2 := cmpA_spec y a
    simp -implicitDefEqProofs [hlt, ha]
    first | refine CallK.same (h1) rfl rfl ?_ | refine CallQ.same (h1) rfl rfl ?_ | refine CallQG.same _ (h1) rfl ?_ | refine CallG.same _ (h1) rfl ?_ | refine CallK.pv (h1) rfl rfl ?_
    cases hra : rightA six a with
    | false =>
      simp [hra] at hR
      simp -implicitDefEqProofs [hw1, hw, hgy, ← hR]
      first | refine CallG.off (.bool true) ?_ | (refine CallG.on ?_; first | refine CallK.same (h2) rfl rfl ?_ | refine CallQ.same (h2) rfl rfl ?_ | refine CallQG.same _ (h2) rfl ?_ | refine CallG.same _ (h2) rfl ?_ | refine CallK.pv (h2) rfl rfl ?_)
      simp -implicitDefEqProofs
    | true =>
      rcases Nat.eq_zero_or_pos k with e | e
      · subst e
        have em : IntKind.i64.wrap (-1) = -1 := by decide
        have hy0 : l[0]? = some y := hy
        simp -implicitDefEqProofs [em, hy0]
        first | refine CallG.off (.bool true) ?_ | (refine CallG.on ?_; first | refine CallK.same (h2) rfl rfl ?_ | refine CallQ.same (h2) rfl rfl ?_ | refine CallQG.same _ (h2) rfl ?_ | refine CallG.same _ (h2) rfl ?_ | refine CallK.pv (h2) rfl rfl ?_)
        simp -implicitDefEqProofs [hw1, hw, hgy]
        refine Again.os 1 [] ⟨by omega, ?_⟩ (by omega) ?_
        · rw [hah] at hR
          rw [if_neg (by simp [hra])] at hR
          rw [show (1 : Nat) = 0 + 1 from rfl, hnx]
          exact hR
        · simp
          decide
      · have e0 : decide (0 < k) = true := by simpa using e
        have e2 : ((k : Int) - 1).toNat = k - 1 := by omega
        simp -implicitDefEqProofs [hw1, hw, hgy, e0, e2, hy]
        refine ⟨⟨by omega, by omega⟩, ?_⟩
        first | refine CallG.off (.bool true) ?_ | (refine CallG.on ?_; first | refine CallK.same (h2) rfl rfl ?_ | refine CallQ.same (h2) rfl rfl ?_ | refine CallQG.same _ (h2) rfl ?_ | refine CallG.same _ (h2) rfl ?_ | refine CallK.pv (h2) rfl rfl ?_)
        simp -implicitDefEqProofs [hw1, hw, hgy]
        have e3 : ¬ k = 0 := by omega
        refine ⟨fun h => ?_, fun h => ?_⟩
        · rw [hah] at hR
          rw [if_pos (by simp [hra, e3]; omega)] at hR
          exact hR
        · rw [hah] at hR
          rw [if_neg (by simp [hra, e3]; omega)] at hR
          refine Again.os (k + 1) [] ⟨hlt, ?_⟩ (by omega) ?_
          · rw [hnx]; exact hR
          · simp [hw]
  · have : k = l.length := by omega
    subst this
    simp [checkAL] at hR
    simp [← hR]
set_option maxRecDepth 4000 in
set_option maxHeartbeats 1000000 in
theorem checkC_spec (six : Bool) (l : List Addr4) (hwf : wfL l) : FSpec Tryz.prog 38 [.bool six, .im (.sl 2 (l.map Addr4.iv))] [] (.int .i64 (checkC six l)) [] := by
  refine FSpec.bd (enters_of Tryz.func38 (by kernel_rfl) rfl) fun hbd => ?_
  have hlb : l.length ≤ 9223372036854775807 := by simp [maxLen] at hbd; exact hbd
  unfold checkC
  cases l with
  | nil =>
    rw [if_pos (.inl rfl)]
    refine FSpec.of_flat (q := [(2, .n 13), (7, .n 14)]) Tryz.func38 (by kernel_rfl) rfl Tryz.ntmps38 Tryz.results38 hP (by kernel_rfl) (by simp) (by first | rfl | simp) ?_
    simp -implicitDefEqProofs
  | cons c t =>
    by_cases h1 : 4096 < (c :: t).length
    · rw [if_pos (.inr (.inl h1))]
      have q1 : (4096 : Int) < (c :: t).length := by omega
      have q4 : decide ((4096 : Int) < (c :: t).length) = true := by simpa using q1
      have hg0 : ((c :: t).map Addr4.iv)[0]? = some c.iv := rfl
      have q3 : ¬ ((c :: t).length : Int) < 1 := by omega
      have q5 : decide (((c :: t).length : Int) < 1) = false := by simpa using q3
      have q6 : (((c :: t).length : Int) == 0) = false := beq_eq_false_iff_ne.2 (by omega)
      generalize c :: t = l at *
      refine FSpec.of_flat (q := [(2, .n 13), (7, .n 14)]) Tryz.func38 (by kernel_rfl) rfl Tryz.ntmps38 Tryz.results38 hP (by kernel_rfl) (by simp) (by first | rfl | simp) ?_
      simp -implicitDefEqProofs [q1, q3, q4, q5, q6, hg0]
    · by_cases h2 : c = zeroA
      · rw [if_neg (by rintro (h | h | h); cases h; exact h1 h; exact h (by rw [h2]; rfl))]
        exact checkC_loop six (c :: t) hwf ⟨Nat.succ_pos _, by omega⟩ (by rw [h2]; rfl)
      · rw [if_pos (.inr (.inr (fun h => h2 (by simpa using h))))]
        have q1 : ¬ (4096 : Int) < (c :: t).length := by omega
        have q4 : decide ((4096 : Int) < (c :: t).length) = false := by simpa using q1
        have hg0 : ((c :: t).map Addr4.iv)[0]? = some c.iv := rfl
        have q3 : ¬ ((c :: t).length : Int) < 1 := by have := (c :: t).length; simp; omega
        have q5 : decide (((c :: t).length : Int) < 1) = false := by simpa using q3
        have q6 : (((c :: t).length : Int) == 0) = false := beq_eq_false_iff_ne.2 (by simp; omega)
        have q0 : 0 < (c :: t).length := Nat.succ_pos _
        have h3 : ¬ (c.hi = 0 ∧ c.lo = 0) := fun h => h2 ((Addr4.eq_iff c zeroA).2 h)
        generalize c :: t = l at *
        refine FSpec.of_flat (q := [(2, .n 13), (7, .n 14)]) Tryz.func38 (by kernel_rfl) rfl Tryz.ntmps38 Tryz.results38 hP (by kernel_rfl) (by simp) (by first | rfl | simp) ?_
        simp -implicitDefEqProofs [q1, q3, q4, q5, q6, hg0]
        exact ⟨q0, fun a b => absurd ⟨a, b⟩ h3⟩
end Go.Am


set_option linter.unusedVariables false
set_option linter.unusedSimpArgs false
set_option pp.deepTerms false
set_option pp.deepTerms.threshold 40
namespace Go.Am
open Go.Proofs

theorem right_lt {six : Bool} {v : Nat} (h : v < 2 ^ wideN six) : rightA six (ofN v) = true := by
  cases six with
  | true => rfl
  | false =>
    have h : v < 4294967296 := h
    unfold rightA ofN
    simp only [Bool.false_or, Bool.and_eq_true, beq_iff_eq]
    constructor
    · omega
    · rw [Int.fdiv_eq_ediv_of_nonneg _ (by omega)]
      show ((v % 18446744073709551616 : Nat) : Int) / 4294967296 = 0
      omega
theorem last_lt {p : Pfx} (hw : p.addr.wf) (h : checkP p = 0) : p.addr.num ≤ lastN p ∧ lastN p < 2 ^ wideN p.six := by
  obtain ⟨l0, l1, l2⟩ := checkP_len h
  have hh := checkP_host hw h
  have hlt := Addr4.num_lt hw l2
  unfold lastN
  generalize hn : wideN p.six - p.len.toNat = n at *
  have hp := Nat.two_pow_pos n
  refine ⟨by omega, ?_⟩
  obtain ⟨q, hq⟩ := Nat.dvd_of_mod_eq_zero hh
  have hW : (2 : Nat) ^ wideN p.six = 2 ^ n * 2 ^ (wideN p.six - n) := by rw [← Nat.pow_add]; congr 1; omega
  rw [hq, hW] at hlt ⊢
  have h3 : q < 2 ^ (wideN p.six - n) := Nat.lt_of_mul_lt_mul_left hlt
  have h4 : 2 ^ n * (q + 1) ≤ 2 ^ n * 2 ^ (wideN p.six - n) := Nat.mul_le_mul_left _ h3
  rw [Nat.mul_add, Nat.mul_one] at h4
  omega
theorem pow_le (six : Bool) : 2 ^ wideN six ≤ 340282366920938463463374607431768211456 := by cases six <;> decide
def ofA (p : Pfx) : List Addr4 := if lastN p = maxN p.six then [p.addr] else [p.addr, ofN (lastN p + 1)]
theorem ofA_wf {p : Pfx} (hw : p.addr.wf) (h : checkP p = 0) : wfL (ofA p) := by
  have h1 := last_lt hw h
  have h2 := pow_le p.six
  unfold ofA
  split
  · intro x hx
    rw [List.mem_singleton] at hx
    rw [hx]; exact hw
  · rename_i hne
    intro x hx
    simp only [List.mem_cons, List.not_mem_nil, or_false] at hx
    rcases hx with rfl | rfl
    · exact hw
    · refine ofN_wf ?_
      unfold maxN at hne
      omega
theorem ofA_len (p : Pfx) : (ofA p).length ≤ 2 := by unfold ofA; split <;> simp
theorem next_last {p : Pfx} (hw : p.addr.wf) (h : checkP p = 0) : nextF p.six (ofN (lastN p)) = if lastN p = maxN p.six then (⟨0, 0⟩, 3) else (ofN (lastN p + 1), 0) := by
  have h1 := last_lt hw h
  have h2 := pow_le p.six
  unfold nextF
  rw [right_lt h1.2, if_neg (by decide), num_ofN (by omega)]
set_option maxRecDepth 8000 in
theorem sortedA_spec (l : List Addr4) (hw : wfL l) (hne : l ≠ []) (hl : l.length ≤ 100000000) : FSpec Tryz.prog 76 [.row 0] [.row 32 2 (l.map Addr4.iv)] (.im (.sl 2 ((sortA l).map Addr4.iv))) [.gone] := by
  have h1 := sortFA_spec l hw hne (by omega)
  have h2 := compactA_spec (msA l) (by rw [(msA_perm l).length_eq]; omega)
  rw [dedupA_sort hw] at h2
  generalize msA l = M at *
  generalize sortA l = S at *
  refine FSpec.of_o (q := []) Tryz.func76 (by kernel_rfl) rfl Tryz.ntmps76 Tryz.results76 hP (by kernel_rfl) (by simp) (by first | rfl | simp) ?_
  simp -implicitDefEqProofs
  refine CallO.mk [] [0] h1 (by simp) rfl (by simp) (by simp) (by simp) ?_
  simp -implicitDefEqProofs
  refine CallO.mk [] [0] h2 (by simp) rfl (by simp) (by simp) (by simp) ?_
  simp -implicitDefEqProofs
  refine EndO.ret [] [0] (.im (.sl 2 (S.map Addr4.iv))) (by simp) ?_
  simp -implicitDefEqProofs
end Go.Am


set_option linter.unusedVariables false
set_option linter.unusedSimpArgs false
set_option pp.deepTerms false
set_option pp.deepTerms.threshold 40
namespace Go.Am
open Go.Proofs

def rtC (six : Bool) (l : List Route) : List Addr4 := l.flatMap fun x => if x.pfx.six = six then ofA x.pfx else []
def roC (six : Bool) (rs : List Router) : List Addr4 := rs.flatMap fun r => rtC six r.routes
def evC (six : Bool) (es : List Ev) : List Addr4 := es.flatMap fun e => if e.kind = 3 ∧ e.pfx.six = six then ofA e.pfx else []
def rawC (p : Past) (six : Bool) : List Addr4 := zeroA :: (roC six p.base.routers ++ evC six p.evs)
theorem flatMap_take {α β : Type} (f : α → List β) {l : List α} {k : Nat} (h : k < l.length) : (l.take (k + 1)).flatMap f = (l.take k).flatMap f ++ f l[k] := by
  rw [List.take_add_one, List.getElem?_eq_getElem h, List.flatMap_append]
  simp
theorem flat_len {α β : Type} (f : α → List β) (m : Nat) : ∀ l : List α, (∀ x ∈ l, (f x).length ≤ m) → (l.flatMap f).length ≤ l.length * m
  | [], _ => by simp
  | x :: l, h => by
    have h1 := flat_len f m l fun y hy => h y (List.mem_cons_of_mem _ hy)
    have h2 := h x List.mem_cons_self
    rw [List.flatMap_cons, List.length_append, List.length_cons, Nat.add_mul]
    omega
theorem rtC_len (six : Bool) (l : List Route) : (rtC six l).length ≤ l.length * 2 := flat_len _ 2 l fun x _ => by
  split
  · exact ofA_len _
  · simp
theorem roC_len (six : Bool) (rs : List Router) (h : ∀ r ∈ rs, r.routes.length ≤ 256) : (roC six rs).length ≤ rs.length * 512 := flat_len _ 512 rs fun r hr => by
  have := rtC_len six r.routes
  have := h r hr
  omega
theorem evC_len (six : Bool) (es : List Ev) : (evC six es).length ≤ es.length * 2 := flat_len _ 2 es fun x _ => by
  split
  · exact ofA_len _
  · simp
theorem allGo_ev {hz : Int} : ∀ (l : List Ev) (n : Net) (i : Int), (allGo hz l n i).2.2 = 0 → ∀ e ∈ l, evOk e = true
  | [], _, _, _, e, he => by cases he
  | x :: l, n, i, h, e, he => by
    obtain ⟨h1, h2⟩ := allGo_step h
    rw [h2] at h
    rcases List.mem_cons.1 he with rfl | he
    · obtain ⟨q1, _, _⟩ := happensF_zero h1
      exact (mayS_zero q1).2.1
    · exact allGo_ev l _ _ h e he
theorem okP_ev {p : Past} (h : okP p = true) : ∀ e ∈ p.evs, e.kind = 3 → checkP e.pfx = 0 := by
  intro e he hk
  have := allGo_ev _ _ _ (okP_all h) e he
  unfold evOk at this
  simp only [Bool.and_eq_true] at this
  have := this.2
  unfold tailOk at this
  simp [hk] at this
  exact this.1.1.1
theorem okP_rt {p : Past} (h : okP p = true) : ∀ r ∈ p.base.routers, r.routes.length ≤ 256 ∧ ∀ x ∈ r.routes, checkP x.pfx = 0 := by
  intro r hr
  have h1 := (netOk_routers (okP_base h)).2 r hr
  refine ⟨(routerOk_len h1).1, fun x hx => ?_⟩
  unfold routerOk at h1
  simp only [Bool.and_eq_true, beq_iff_eq] at h1
  have := checkR_mem h1.1.2 x hx
  unfold routeOk at this
  simp only [Bool.and_eq_true, beq_iff_eq] at this
  exact this.2
theorem rawC_wf {p : Past} (hw : p.wf) (h : okP p = true) (six : Bool) : wfL (rawC p six) := by
  intro a ha
  rcases List.mem_cons.1 ha with rfl | ha
  · unfold zeroA Addr4.wf; decide
  rcases List.mem_append.1 ha with ha | ha
  · unfold roC rtC at ha
    simp only [List.mem_flatMap] at ha
    obtain ⟨r, hr, x, hx, hm⟩ := ha
    split at hm
    · exact ofA_wf (hw.1 r hr x hx) ((okP_rt h r hr).2 x hx) a hm
    · cases hm
  · unfold evC at ha
    simp only [List.mem_flatMap] at ha
    obtain ⟨e, he, hm⟩ := ha
    split at hm
    · rename_i hk
      exact ofA_wf (hw.2 e he).2 (okP_ev h e he hk.1) a hm
    · cases hm
theorem rawC_len {p : Past} (h : okP p = true) (six : Bool) : (rawC p six).length ≤ 1000000 := by
  have h1 := roC_len six p.base.routers fun r hr => (okP_rt h r hr).1
  have h2 := evC_len six p.evs
  have h3 := netOk_len (okP_base h)
  have h4 := okP_len h
  unfold rawC
  rw [List.length_cons, List.length_append]
  omega
def cutsF (p : Past) (six : Bool) : List Addr4 := sortA (rawC p six)
end Go.Am


set_option linter.unusedVariables false
set_option linter.unusedSimpArgs false
set_option pp.deepTerms false
set_option pp.deepTerms.threshold 40
namespace Go.Am
open Go.Proofs

theorem cloNAddr_spec (A : Option Addr) (c : Nat) : FSpec Tryz.prog 74 [.im (.sc (.slice A 0 c))] [] (.row 0) [.row 32 2 []] := by
  refine FSpec.of_o (q := []) Tryz.func74 (by kernel_rfl) rfl Tryz.ntmps74 Tryz.results74 hP (by kernel_rfl) (by simp) (by first | rfl | simp) ?_
  cases A with
  | none =>
    cases c with
    | zero =>
      simp -implicitDefEqProofs
      refine ⟨[.sl 2 32 2], [], [0], .row 0, by simp [St.nils], by simp [St.nils]⟩
    | succ c =>
      simp -implicitDefEqProofs
      refine ⟨[.sl 2 32 2], [], [0], .row 0, by simp [St.nils], by simp [St.nils]⟩
  | some ad =>
    simp -implicitDefEqProofs
    refine EndO.ret [] [1] (.row 1) (by simp) (by simp)
theorem cloAddr_spec (xs : List (List IV)) (hl : xs.length ≤ 4096) : FSpec Tryz.prog 74 [.im (.sl 2 xs)] [] (.row 0) [.row 32 2 xs] := by
  cases xs with
  | nil => exact FSpec.nilArg cloNAddr_spec
  | cons x xs =>
    refine FSpec.of_o (q := []) Tryz.func74 (by kernel_rfl) rfl Tryz.ntmps74 Tryz.results74 hP (by kernel_rfl) (by simp) (by first | rfl | simp) ?_
    simp -implicitDefEqProofs
    simp at hl
    refine ⟨⟨by omega, by unfold maxLen; omega⟩, ?_⟩
    refine EndO.ret [] [1] (.row 1) (by simp) (by simp)
def splitF (six : Bool) (cuts : List Addr4) (p : Pfx) : List Addr4 × Int :=
  if ¬ checkC six cuts = 0 ∨ ¬ p.six = six ∨ ¬ checkP p = 0 then ([], 2) else if 4096 < (sortA (cuts ++ ofA p)).length then (cuts, 11) else (sortA (cuts ++ ofA p), 0)
theorem ofo_spec (p : Pfx) : FSpec Tryz.prog 75 [p.av] [] (.fn 109 [.ptr 0 0]) [.box 34 [.bool p.six, .int .u64 p.addr.hi, .int .u64 p.addr.lo, .int .i64 p.len]] := by
  refine FSpec.of_o (q := []) Tryz.func75 (by kernel_rfl) rfl Tryz.ntmps75 Tryz.results75 hP (by kernel_rfl) (by simp) (by first | rfl | simp) ?_
  simp -implicitDefEqProofs
  refine EndO.ret [] [0] (.fn 109 [.ptr 0 0]) (by simp) ?_
  simp -implicitDefEqProofs
theorem checkC_len {six : Bool} {l : List Addr4} (h : checkC six l = 0) : 0 < l.length ∧ l.length ≤ 4096 := by
  unfold checkC at h
  split at h
  · cases h
  · omega
set_option maxRecDepth 8000 in
set_option maxHeartbeats 4000000 in
theorem split_walk (six : Bool) (cuts : List Addr4) (p : Pfx) (hcw : wfL cuts) (hc : checkC six cuts = 0) (hs : p.six = six) (hp : checkP p = 0) (L N : Addr4) (w : Int) (hw : w = 0 ∨ w = 3)
    (h1 : FSpec Tryz.prog 82 [p.av] [] (.tup [L.av, .int .i64 0]) []) (h2 : FSpec Tryz.prog 110 [.bool p.six, L.av] [] (.tup [N.av, .int .i64 w]) [])
    (O : List Addr4) (hO : O = if w = 0 then [p.addr, N] else [p.addr]) (hOw : wfL O) :
    FSpec Tryz.prog 40 [.bool six, .im (.sl 2 (cuts.map Addr4.iv)), p.av] [] (.tup [.im (.sl 2 ((if 4096 < (sortA (cuts ++ O)).length then cuts else sortA (cuts ++ O)).map Addr4.iv)), .int .i64 (if 4096 < (sortA (cuts ++ O)).length then 11 else 0)]) [] := by
  have g1 := checkC_spec six cuts hcw
  rw [hc] at g1
  have g2 := checkP_spec p
  rw [hp] at g2
  obtain ⟨hl0, hl1⟩ := checkC_len hc
  have g3 := cloAddr_spec (cuts.map Addr4.iv) (by simpa using hl1)
  subst hs
  refine FSpec.of_z (q := []) Tryz.func40 (by kernel_rfl) rfl Tryz.ntmps40 Tryz.results40 hP (by kernel_rfl) (by simp) (by first | rfl | simp) ?_
  simp -implicitDefEqProofs
  first | refine CallK.same (g1) rfl rfl ?_ | refine CallQ.same (g1) rfl rfl ?_ | refine CallQG.same _ (g1) rfl ?_ | refine CallG.same _ (g1) rfl ?_ | refine CallK.pv (g1) rfl rfl ?_
  simp -implicitDefEqProofs
  first | refine CallG.off (.bool true) ?_ | (refine CallG.on ?_; first | refine CallK.same (g2) rfl rfl ?_ | refine CallQ.same (g2) rfl rfl ?_ | refine CallQG.same _ (g2) rfl ?_ | refine CallG.same _ (g2) rfl ?_ | refine CallK.pv (g2) rfl rfl ?_)
  simp -implicitDefEqProofs
  refine CallK.outs [] g3 rfl (by simp) (by simp [AV.flat]) ?_
  simp -implicitDefEqProofs
  refine CallK.outs [] (ofo_spec p) rfl (by simp) (by simp [AV.flat]) ?_
  simp -implicitDefEqProofs [rangeK]
  intro a0 b rr
  refine ⟨_, _, _, [], Tryz.func109, (by kernel_rfl), rfl, Tryz.ntmps109, Tryz.results109, (by kernel_rfl), (by simp), ?_⟩
  simp -implicitDefEqProofs
  first | refine CallK.same (h1) rfl rfl ?_ | refine CallQ.same (h1) rfl rfl ?_ | refine CallQG.same _ (h1) rfl ?_ | refine CallG.same _ (h1) rfl ?_ | refine CallK.pv (h1) rfl rfl ?_
  simp -implicitDefEqProofs
  first | refine CallK.same (h2) rfl rfl ?_ | refine CallQ.same (h2) rfl rfl ?_ | refine CallQG.same _ (h2) rfl ?_ | refine CallG.same _ (h2) rfl ?_ | refine CallK.pv (h2) rfl rfl ?_
  simp -implicitDefEqProofs
  refine ⟨4, _, rfl, rfl, rfl, fun aI => ?_⟩
  simp -implicitDefEqProofs [putL, asgK]
  refine ⟨5, by simp, ?_⟩
  simp -implicitDefEqProofs
  refine ⟨⟨by omega, by unfold maxLen; omega⟩, ?_⟩
  refine endRd_normal 8 5 (by simp; rfl) (by simp) ?_
  rcases hw with rfl | rfl
  · simp -implicitDefEqProofs
    refine ⟨4, _, rfl, rfl, rfl, fun aJ => ?_⟩
    simp -implicitDefEqProofs [putL, asgK]
    refine ⟨5, by simp, ?_⟩
    simp -implicitDefEqProofs
    refine ⟨⟨by omega, by unfold maxLen; omega⟩, ?_⟩
    refine endRd_normal 12 5 (by simp; rfl) (by simp) ?_
    simp -implicitDefEqProofs
    refine ⟨4, _, 5, .ready, none, rfl, rfl, .inl rfl, ?_⟩
    simp -implicitDefEqProofs [pendK]
    have hO : O = [p.addr, N] := hO
    have hsw : wfL (cuts ++ O) := fun x hx => (List.mem_append.1 hx).elim (fun h => hcw x h) fun h => hOw x h
    have hsrt := sortedA_spec (cuts ++ O) hsw (by intro e; rw [List.append_eq_nil_iff] at e; rw [e.1] at hl0; cases hl0) (by rw [hO]; simp; omega)
    generalize sortA (cuts ++ O) = S at *
    rw [hO] at hsrt
    simp at hsrt
    refine CallO.mk [] [15] hsrt (by simp) rfl (by simp) (by simp) (by simp) ?_
    simp -implicitDefEqProofs
    refine ⟨fun h => ?_, fun h => ?_⟩
    · refine CallK.outs [] g3 rfl (by simp) (by simp [AV.flat]) ?_
      simp -implicitDefEqProofs
      refine EndZ.ret [16] (.tup [.row 16, .int .i64 11]) (by simp) ?_
      have hh : 4096 < S.length := by omega
      simp -implicitDefEqProofs [hh]
    · have hh : ¬ 4096 < S.length := by omega
      refine EndZ.ret [] (.tup [.im (.sl 2 (S.map Addr4.iv)), .int .i64 0]) (by simp) ?_
      simp -implicitDefEqProofs [hh]
  · simp -implicitDefEqProofs
    refine ⟨4, _, 5, .ready, none, rfl, rfl, .inl rfl, ?_⟩
    simp -implicitDefEqProofs [pendK]
    have hO : O = [p.addr] := hO
    have hsw : wfL (cuts ++ O) := fun x hx => (List.mem_append.1 hx).elim (fun h => hcw x h) fun h => hOw x h
    have hsrt := sortedA_spec (cuts ++ O) hsw (by intro e; rw [List.append_eq_nil_iff] at e; rw [e.1] at hl0; cases hl0) (by rw [hO]; simp; omega)
    generalize sortA (cuts ++ O) = S at *
    rw [hO] at hsrt
    simp at hsrt
    refine CallO.mk [] [11] hsrt (by simp) rfl (by simp) (by simp) (by simp) ?_
    simp -implicitDefEqProofs
    refine ⟨fun h => ?_, fun h => ?_⟩
    · refine CallK.outs [] g3 rfl (by simp) (by simp [AV.flat]) ?_
      simp -implicitDefEqProofs
      refine EndZ.ret [12] (.tup [.row 12, .int .i64 11]) (by simp) ?_
      have hh : 4096 < S.length := by omega
      simp -implicitDefEqProofs [hh]
    · have hh : ¬ 4096 < S.length := by omega
      refine EndZ.ret [] (.tup [.im (.sl 2 (S.map Addr4.iv)), .int .i64 0]) (by simp) ?_
      simp -implicitDefEqProofs [hh]
theorem ofA_next {p : Pfx} (hw : p.addr.wf) (h : checkP p = 0) : ∃ (N : Addr4) (w : Int), nextF p.six (ofN (lastN p)) = (N, w) ∧ (w = 0 ∨ w = 3) ∧ ofA p = if w = 0 then [p.addr, N] else [p.addr] := by
  rw [next_last hw h]
  unfold ofA
  by_cases hm : lastN p = maxN p.six
  · rw [if_pos hm, if_pos hm]
    exact ⟨_, _, rfl, .inr rfl, rfl⟩
  · rw [if_neg hm, if_neg hm]
    exact ⟨_, _, rfl, .inl rfl, rfl⟩
theorem of_parts {p : Pfx} (hw : p.addr.wf) (h : checkP p = 0) : ∃ (L N : Addr4) (w : Int), FSpec Tryz.prog 82 [p.av] [] (.tup [L.av, .int .i64 0]) [] ∧ FSpec Tryz.prog 110 [.bool p.six, L.av] [] (.tup [N.av, .int .i64 w]) [] ∧ (w = 0 ∨ w = 3) ∧ ofA p = if w = 0 then [p.addr, N] else [p.addr] := by
  have h1 := last_spec p hw
  unfold lastF at h1
  rw [if_pos h] at h1
  have hl := last_lt hw h
  have hp := pow_le p.six
  have h2 := next_spec p.six (ofN (lastN p)) (ofN_wf (by omega))
  obtain ⟨N, w, e1, e2, e3⟩ := ofA_next hw h
  rw [e1] at h2
  exact ⟨_, N, w, h1, h2, e2, e3⟩
theorem split_spec (six : Bool) (cuts : List Addr4) (p : Pfx) (hcw : wfL cuts) (hw : p.addr.wf) :
    FSpec Tryz.prog 40 [.bool six, .im (.sl 2 (cuts.map Addr4.iv)), p.av] [] (.tup [.im (.sl 2 ((splitF six cuts p).1.map Addr4.iv)), .int .i64 (splitF six cuts p).2]) [] := by
  unfold splitF
  by_cases hbad : ¬ checkC six cuts = 0 ∨ ¬ p.six = six ∨ ¬ checkP p = 0
  · rw [if_pos hbad]
    have g1 := checkC_spec six cuts hcw
    have g2 := checkP_spec p
    generalize checkC six cuts = C at *
    generalize checkP p = V at *
    refine FSpec.of_z (q := []) Tryz.func40 (by kernel_rfl) rfl Tryz.ntmps40 Tryz.results40 hP (by kernel_rfl) (by simp) (by first | rfl | simp) ?_
    simp -implicitDefEqProofs
    first | refine CallK.same (g1) rfl rfl ?_ | refine CallQ.same (g1) rfl rfl ?_ | refine CallQG.same _ (g1) rfl ?_ | refine CallG.same _ (g1) rfl ?_ | refine CallK.pv (g1) rfl rfl ?_
    simp -implicitDefEqProofs
    first | refine CallK.same (g2) rfl rfl ?_ | refine CallQ.same (g2) rfl rfl ?_ | refine CallQG.same _ (g2) rfl ?_ | refine CallG.same _ (g2) rfl ?_ | refine CallK.pv (g2) rfl rfl ?_
    simp -implicitDefEqProofs
    refine ⟨fun h => ?_, fun a b c => absurd hbad (by simp [a, b, c])⟩
    refine EndZ.ret [] (.tup [.im (.sc (.slice none 0 0)), .int .i64 2]) (by simp) ?_
    simp
  · rw [if_neg hbad]
    have h1 : checkC six cuts = 0 := Classical.byContradiction fun h => hbad (.inl h)
    have h2 : p.six = six := Classical.byContradiction fun h => hbad (.inr (.inl h))
    have h3 : checkP p = 0 := Classical.byContradiction fun h => hbad (.inr (.inr h))
    obtain ⟨L, N, w, k1, k2, k3, k4⟩ := of_parts hw h3
    have hs := split_walk six cuts p hcw h1 h2 h3 L N w k3 k1 k2 (ofA p) k4 (ofA_wf hw h3)
    by_cases hb : 4096 < (sortA (cuts ++ ofA p)).length
    · rw [if_pos hb, if_pos hb] at hs
      rw [if_pos hb]
      exact hs
    · rw [if_neg hb, if_neg hb] at hs
      rw [if_neg hb]
      exact hs
end Go.Am


set_option linter.unusedVariables false
set_option linter.unusedSimpArgs false
set_option pp.deepTerms false
set_option pp.deepTerms.threshold 40
namespace Go.Am
open Go.Proofs

end Go.Am


set_option linter.unusedVariables false
set_option linter.unusedSimpArgs false
set_option pp.deepTerms false
set_option pp.deepTerms.threshold 40
namespace Go.Am
open Go.Proofs

theorem checkAL_ok (six : Bool) : ∀ {l : List Addr4} {pv : Option Addr4}, wfL l → (∀ p, pv = some p → p.wf) → checkAL six l pv = 0 → (∀ a ∈ l, rightA six a = true) ∧ (∀ p, pv = some p → ∀ a ∈ l, p.num < a.num) ∧ SA l
  | [], pv, _, _, _ => ⟨fun a h => (by cases h), fun p _ a h => (by cases h), List.Pairwise.nil⟩
  | a :: t, pv, hw, hp, h => by
    rw [checkAL] at h
    split at h
    · cases h
    rename_i hc
    simp only [Bool.or_eq_true, Bool.not_eq_true', not_or, Bool.not_eq_false] at hc
    have haw := hw a List.mem_cons_self
    have hwt : wfL t := fun x hx => hw x (List.mem_cons_of_mem _ hx)
    obtain ⟨h1, h2, h3⟩ := checkAL_ok six hwt (fun p e => by cases e; exact haw) h
    have hh := h2 a rfl
    refine ⟨fun x hx => ?_, fun p e x hx => ?_, List.pairwise_cons.2 ⟨hh, h3⟩⟩
    · rcases List.mem_cons.1 hx with rfl | hx
      · exact hc.1
      · exact h1 x hx
    · subst e
      have hpa : p.num < a.num := by
        have := hc.2
        unfold aheadA at this
        exact (cmpA_lt (hp p rfl) haw).1 (by simpa using this)
      rcases List.mem_cons.1 hx with rfl | hx
      · exact hpa
      · have := hh x hx; omega
theorem checkC_ok {six : Bool} {l : List Addr4} (hw : wfL l) (h : checkC six l = 0) : (∀ a ∈ l, rightA six a = true) ∧ SA l ∧ l.head? = some zeroA := by
  unfold checkC at h
  split at h
  · cases h
  rename_i hc
  obtain ⟨h1, _, h3⟩ := checkAL_ok six hw (fun p e => by cases e) h
  exact ⟨h1, h3, Classical.byContradiction fun hn => hc (.inr (.inr hn))⟩
def cmpB (n a : Addr4) : Int := cmpA a n
theorem bsA_spec (l : List Addr4) (n : Addr4) (hst : strictC (cmpB n) l) :
    FSpec Tryz.prog 78 [.im (.sl 2 (l.map Addr4.iv)), n.av, .fn 70 []] [] (.tup [.int .i64 (bsI (cmpB n) l), .bool (bsF (cmpB n) l)]) [] := by
  have hs := fun (i j : Nat) (x y : Addr4) => @strict_up Addr4 (cmpB n) l hst i j x y
  refine FSpec.bd (enters_of Tryz.func78 (by kernel_rfl) rfl) fun hbd => ?_
  have hl : l.length ≤ 9223372036854775807 := by simp [maxLen] at hbd; omega
  refine FSpec.of_flat (q := [(5, .n 6), (8, .n 15)]) Tryz.func78 (by kernel_rfl) rfl Tryz.ntmps78 Tryz.results78 hP (by kernel_rfl) (by simp) (by first | rfl | simp) ?_
  simp
  refine LoopK.os (fun g : Nat × Nat => [(0, .im (.sl 2 (l.map Addr4.iv))), (2, .fn 70 []), (4, .ptr 0 0), (8, .int .i64 l.length), (9, .int .i64 g.1), (10, .int .i64 g.2)])
    (fun _ => [.box 32 [.int .u64 n.hi, .int .u64 n.lo]])
    (fun g => g.1 ≤ g.2 ∧ g.2 ≤ l.length ∧ (∀ i x, i < g.1 → l[i]? = some x → cmpB n x < 0) ∧ (∀ i x, g.2 ≤ i → l[i]? = some x → 0 ≤ cmpB n x)) (fun g => g.2 - g.1) (0, l.length) [0] ?_ ?_ ?_
  · exact ⟨Nat.zero_le _, Nat.le_refl _, fun i x hi => by omega, fun i x hi hx => by rw [List.getElem?_eq_none hi] at hx; cases hx⟩
  · simp
  rintro ⟨lo, hi⟩ ⟨h1, h2, h3, h4⟩
  simp only at h1 h2 h3 h4
  by_cases hlt : lo < hi
  · have hm := half_eq lo hi (by omega) (by omega)
    have hml : (lo + hi) / 2 < l.length := by omega
    obtain ⟨m, hmm⟩ : ∃ m, m = (lo + hi) / 2 := ⟨_, rfl⟩
    rw [← hmm] at hm hml
    have hg := List.getElem?_eq_getElem hml
    have hw1 : IntKind.i64.wrap (m + 1) = (m + 1 : Nat) := wrap64 (by omega) (by omega)
    simp [hlt, hm, hml, hg]
    generalize l[m] = x at *
    first | refine CallK.same (cmpA_spec x n) rfl rfl ?_ | refine CallQ.same (cmpA_spec x n) rfl rfl ?_ | refine CallQG.same _ (cmpA_spec x n) rfl ?_ | refine CallG.same _ (cmpA_spec x n) rfl ?_ | refine CallK.pv (cmpA_spec x n) rfl rfl ?_
    rw [show cmpA x n = cmpB n x from rfl] at *
    simp [hw1]
    refine ⟨fun hc => ?_, fun hc => ?_⟩
    · refine Again.os (m + 1, hi) [0] ⟨by omega, h2, fun i y hi' hy => ?_, h4⟩ (by simp only; omega) (by simp)
      exact hs i m y x (by omega) hy hg hc
    · refine Again.os (lo, m) [0] ⟨by omega, by omega, h3, fun i y hi' hy => ?_⟩ (by simp only; omega) (by simp)
      apply Classical.byContradiction
      intro hc'
      have := hs m i x y hi' hg hy (by omega)
      omega
  · have : lo = hi := by omega
    subst this
    have hb := bsI_eq (cmpB n) l lo h2 h3 (fun i x h5 h6 => by have := h4 i x h5 h6; omega)
    by_cases hll : lo < l.length
    · have hg := List.getElem?_eq_getElem hll
      simp [hll]
      generalize l[lo] = x at *
      first | refine CallK.same (cmpA_spec x n) rfl rfl ?_ | refine CallQ.same (cmpA_spec x n) rfl rfl ?_ | refine CallQG.same _ (cmpA_spec x n) rfl ?_ | refine CallG.same _ (cmpA_spec x n) rfl ?_ | refine CallK.pv (cmpA_spec x n) rfl rfl ?_
      simp [bsF, hb, hg]
      rfl
    · simp [hll, List.getElem?_eq_none (show l.length ≤ lo by omega)]
      refine CallQG.off (.int .i64 0) ?_
      simp [bsF, hb, List.getElem?_eq_none (show l.length ≤ lo by omega)]
theorem strictA {l : List Addr4} {n : Addr4} (hw : wfL l) (hn : n.wf) (h : SA l) : strictC (cmpB n) l := by
  refine List.Pairwise.imp_of_mem ?_ h
  intro x y hx hy hxy h0
  have h1 := cmpA_lt (hw x hx) hn
  have h2 := cmpA_gt (hw y hy) hn
  unfold cmpB at *
  omega
def whereN (n : Addr4) (l : List Addr4) : Nat := l.countP (fun c => decide (c.num ≤ n.num)) - 1
theorem count_lt {l : List Addr4} {n : Addr4} (hw : wfL l) (hn : n.wf) : (l.filter fun x => decide (cmpB n x < 0)).countP (fun c => decide (c.num ≤ n.num)) = (l.filter fun x => decide (cmpB n x < 0)).length := by
  rw [List.countP_eq_length]
  intro x hx
  obtain ⟨h1, h2⟩ := List.mem_filter.1 hx
  have := (cmpA_lt (hw x h1) hn).1 (of_decide_eq_true h2)
  simp; omega
theorem count_gt {l : List Addr4} {n : Addr4} (hw : wfL l) (hn : n.wf) : (l.filter fun x => decide (0 < cmpB n x)).countP (fun c => decide (c.num ≤ n.num)) = 0 := by
  rw [List.countP_eq_zero]
  intro x hx
  obtain ⟨h1, h2⟩ := List.mem_filter.1 hx
  have := (cmpA_gt (hw x h1) hn).1 (of_decide_eq_true h2)
  simp; omega
theorem bsA_where {l : List Addr4} {n : Addr4} (hw : wfL l) (hn : n.wf) (h : SA l) : l.countP (fun c => decide (c.num ≤ n.num)) = if bsF (cmpB n) l then bsI (cmpB n) l + 1 else bsI (cmpB n) l := by
  have hs := strictA hw hn h
  have hlt := bs_lt hs
  have hle := bsI_le (cmpB n) l
  have hlen : (l.filter fun x => decide (cmpB n x < 0)).length = bsI (cmpB n) l := by
    rw [← hlt, List.length_take]; omega
  cases hf : bsF (cmpB n) l with
  | true =>
    have hi := bsF_ltn hf
    have := bs_set hs (l[bsI (cmpB n) l]) hf
    rw [List.set_getElem_self] at this
    have hc : cmpB n l[bsI (cmpB n) l] = 0 := by
      unfold bsF at hf
      rw [List.getElem?_eq_getElem hi] at hf
      simpa using hf
    have heq := (cmpA_eq (hw _ (List.getElem_mem hi)) hn).1 hc
    rw [if_pos rfl]
    conv => lhs; rw [this]
    rw [List.countP_append, List.countP_append, count_lt hw hn, count_gt hw hn, hlen, heq]
    simp
  | false =>
    have := bs_none hs hf
    rw [if_neg (by decide)]
    conv => lhs; rw [this]
    rw [List.countP_append, count_lt hw hn, count_gt hw hn, hlen]
    rfl
theorem count_pos {six : Bool} {l : List Addr4} {n : Addr4} (hw : wfL l) (h : checkC six l = 0) : 0 < l.countP (fun c => decide (c.num ≤ n.num)) := by
  obtain ⟨_, _, h3⟩ := checkC_ok hw h
  rw [List.countP_pos_iff]
  refine ⟨zeroA, List.mem_of_mem_head? h3, ?_⟩
  simp [zeroA, Addr4.num]
def whereF (six : Bool) (l : List Addr4) (a : Addr4) : Nat × Int := if ¬ checkC six l = 0 ∨ rightA six a = false then (0, 2) else (whereN a l, 0)
set_option maxRecDepth 8000 in
theorem where_spec (six : Bool) (l : List Addr4) (a : Addr4) (hw : wfL l) (ha : a.wf) : FSpec Tryz.prog 42 [.bool six, .im (.sl 2 (l.map Addr4.iv)), a.av] [] (.tup [.int .i64 (whereF six l a).1, .int .i64 (whereF six l a).2]) [] := by
  unfold whereF
  have g1 := checkC_spec six l hw
  have g2 := rightA_spec six a
  by_cases hbad : ¬ checkC six l = 0 ∨ rightA six a = false
  · rw [if_pos hbad]
    generalize checkC six l = C at *
    generalize rightA six a = V at *
    refine FSpec.of_flat (q := []) Tryz.func42 (by kernel_rfl) rfl Tryz.ntmps42 Tryz.results42 hP (by kernel_rfl) (by simp) (by first | rfl | simp) ?_
    simp -implicitDefEqProofs
    first | refine CallK.same (g1) rfl rfl ?_ | refine CallQ.same (g1) rfl rfl ?_ | refine CallQG.same _ (g1) rfl ?_ | refine CallG.same _ (g1) rfl ?_ | refine CallK.pv (g1) rfl rfl ?_
    simp -implicitDefEqProofs
    first | refine CallK.same (g2) rfl rfl ?_ | refine CallQ.same (g2) rfl rfl ?_ | refine CallQG.same _ (g2) rfl ?_ | refine CallG.same _ (g2) rfl ?_ | refine CallK.pv (g2) rfl rfl ?_
    simp -implicitDefEqProofs
    intro b1 b2
    rcases hbad with h | h
    · exact absurd b1 h
    · rw [b2] at h; cases h
  · rw [if_neg hbad]
    have h1 : checkC six l = 0 := Classical.byContradiction fun h => hbad (.inl h)
    have h2 : rightA six a = true := by cases h : rightA six a with | true => rfl | false => exact absurd (.inr h) hbad
    obtain ⟨_, hs, _⟩ := checkC_ok hw h1
    have hb := bsA_spec l a (strictA hw ha hs)
    have hx := bsA_where hw ha hs
    have hp := count_pos (n := a) hw h1
    have hle := bsI_le (cmpB a) l
    have hl := (checkC_len h1).2
    have hwn : whereN a l = l.countP (fun c => decide (c.num ≤ a.num)) - 1 := rfl
    rw [h1] at g1
    rw [h2] at g2
    generalize bsI (cmpB a) l = I at *
    generalize bsF (cmpB a) l = B at *
    generalize whereN a l = W at *
    generalize l.countP (fun c => decide (c.num ≤ a.num)) = K at *
    refine FSpec.of_flat (q := []) Tryz.func42 (by kernel_rfl) rfl Tryz.ntmps42 Tryz.results42 hP (by kernel_rfl) (by simp) (by first | rfl | simp) ?_
    simp -implicitDefEqProofs
    first | refine CallK.same (g1) rfl rfl ?_ | refine CallQ.same (g1) rfl rfl ?_ | refine CallQG.same _ (g1) rfl ?_ | refine CallG.same _ (g1) rfl ?_ | refine CallK.pv (g1) rfl rfl ?_
    simp -implicitDefEqProofs
    first | refine CallG.off (.bool true) ?_ | (refine CallG.on ?_; first | refine CallK.same (g2) rfl rfl ?_ | refine CallQ.same (g2) rfl rfl ?_ | refine CallQG.same _ (g2) rfl ?_ | refine CallG.same _ (g2) rfl ?_ | refine CallK.pv (g2) rfl rfl ?_)
    simp -implicitDefEqProofs
    first | refine CallK.same (hb) rfl rfl ?_ | refine CallQ.same (hb) rfl rfl ?_ | refine CallQG.same _ (hb) rfl ?_ | refine CallG.same _ (hb) rfl ?_ | refine CallK.pv (hb) rfl rfl ?_
    cases B with
    | true =>
      simp -implicitDefEqProofs
      rw [if_pos rfl] at hx
      omega
    | false =>
      simp -implicitDefEqProofs
      rw [if_neg (by decide)] at hx
      rw [wrap64 (by omega) (by omega)]
      omega
end Go.Am


set_option linter.unusedVariables false
set_option linter.unusedSimpArgs false
set_option pp.deepTerms false
set_option pp.deepTerms.threshold 40
namespace Go.Am
open Go.Proofs

end Go.Am


set_option linter.unusedVariables false
set_option linter.unusedSimpArgs false
set_option pp.deepTerms false
set_option pp.deepTerms.threshold 40
namespace Go.Am
open Go.Proofs

structure Span4 where
  fr : Addr4
  to : Addr4
@[simp] def Span4.iv (s : Span4) : List IV := [.sc (.int .u64 s.fr.hi), .sc (.int .u64 s.fr.lo), .sc (.int .u64 s.to.hi), .sc (.int .u64 s.to.lo)]
def spanAt (six : Bool) (l : List Addr4) (i : Nat) : Span4 := ⟨l.getD i zeroA, if i + 1 < l.length then ofN ((l.getD (i + 1) zeroA).num - 1) else ofN (maxN six)⟩
def spansF (six : Bool) (l : List Addr4) : List Span4 := (List.range l.length).map (spanAt six l)
def allP (six : Bool) : Pfx := ⟨six, zeroA, 0⟩
theorem allP_ok (six : Bool) : checkP (allP six) = 0 := by cases six <;> decide
theorem allP_last (six : Bool) : lastF (allP six) = (ofN (maxN six), 0) := by
  unfold lastF
  rw [if_pos (allP_ok six)]
  cases six <;> rfl
theorem allP_wf (six : Bool) : (allP six).addr.wf := by unfold allP zeroA Addr4.wf; simp
theorem prev_cut {six : Bool} {l : List Addr4} (hw : wfL l) (h : checkC six l = 0) {i : Nat} (hi : i + 1 < l.length) : prevF six l[i + 1] = (ofN (l[i + 1].num - 1), 0) := by
  obtain ⟨h1, h2, h3⟩ := checkC_ok hw h
  have hlt := List.pairwise_iff_getElem.1 h2 i (i + 1) (by omega) hi (by omega)
  unfold prevF
  rw [h1 _ (List.getElem_mem hi), if_neg (by decide), if_neg (by omega)]
end Go.Am


set_option linter.unusedVariables false
set_option linter.unusedSimpArgs false
set_option pp.deepTerms false
set_option pp.deepTerms.threshold 40
namespace Go.Am
open Go.Proofs

theorem atomsO_spec (six : Bool) (l : List Addr4) : FSpec Tryz.prog 79 [.bool six, .im (.sl 2 (l.map Addr4.iv))] [] (.fn 115 [.ptr 0 0, .ptr 1 0]) [.box 4 [.bool six], .box 67 [.im (.sl 2 (l.map Addr4.iv))]] := by
  refine FSpec.of_o (q := []) Tryz.func79 (by kernel_rfl) rfl Tryz.ntmps79 Tryz.results79 hP (by kernel_rfl) (by simp) (by first | rfl | simp) ?_
  simp -implicitDefEqProofs
  refine EndO.ret [] [0, 1] (.fn 115 [.ptr 0 0, .ptr 1 0]) (by simp) ?_
  simp -implicitDefEqProofs
theorem checkAL_two (six : Bool) : ∀ (l : List Addr4) (p : Option Addr4), checkAL six l p = 0 ∨ checkAL six l p = 2
  | [], _ => .inl rfl
  | a :: t, pv => by
    unfold checkAL
    split
    · exact .inr rfl
    · exact checkAL_two six t (some a)
theorem checkC_two (six : Bool) (l : List Addr4) : checkC six l = 0 ∨ checkC six l = 2 := by
  unfold checkC
  split
  · exact .inr rfl
  · exact checkAL_two six l none
set_option maxRecDepth 8000 in
set_option maxHeartbeats 2000000 in
theorem spans_good (six : Bool) (l : List Addr4) (hw : wfL l) (h : checkC six l = 0) (E : Addr4) (hE : E = ofN (maxN six)) : FSpec Tryz.prog 44 [.bool six, .im (.sl 2 (l.map Addr4.iv))] [] (.tup [.im (.sl 4 ((spansF six l).map Span4.iv)), .int .i64 0]) [] := by
  have g1 := checkC_spec six l hw
  rw [h] at g1
  have hl := (checkC_len h).2
  have g2 := last_spec (allP six) (allP_wf six)
  rw [allP_last, ← hE] at g2
  refine FSpec.of_z (q := []) Tryz.func44 (by kernel_rfl) rfl Tryz.ntmps44 Tryz.results44 hP (by kernel_rfl) (by simp) (by first | rfl | simp) ?_
  simp -implicitDefEqProofs
  first | refine CallK.same (g1) rfl rfl ?_ | refine CallQ.same (g1) rfl rfl ?_ | refine CallQG.same _ (g1) rfl ?_ | refine CallG.same _ (g1) rfl ?_ | refine CallK.pv (g1) rfl rfl ?_
  simp -implicitDefEqProofs
  refine CallK.outs [] (atomsO_spec six l) rfl (by simp) (by simp [AV.flat]) ?_
  simp -implicitDefEqProofs [rangeK]
  intro a0 b rr
  refine ⟨_, _, _, [(6, .m [.p [], .p [], .p [], .p [], .p [], .p [], .e [29, 34], .p [], .p [], .p [2], .e [8, 36]])], Tryz.func115, (by kernel_rfl), rfl, Tryz.ntmps115, Tryz.results115, (by kernel_rfl), (by simp), ?_⟩
  simp -implicitDefEqProofs
  first | refine CallK.same (g2) rfl rfl ?_ | refine CallQ.same (g2) rfl rfl ?_ | refine CallQG.same _ (g2) rfl ?_ | refine CallG.same _ (g2) rfl ?_ | refine CallK.pv (g2) rfl rfl ?_
  simp -implicitDefEqProofs
  refine LoopK.nil (.cl 0 0 121 4) ?_
  simp -implicitDefEqProofs
  refine LoopK.os (fun k : Nat => [(0, .yld 5), (1, .ptr 2 0), (2, .ptr 3 0), (4, .ptr 6 0), (15, .im (.sl 2 (l.map Addr4.iv))), (16, .int .i64 l.length), (17, .int .i64 k)])
    (fun k => [.row 121 4 (((List.range k).map (spanAt six l)).map Span4.iv), .box 75 [.row 0], .box 4 [.bool six], .box 67 [.im (.sl 2 (l.map Addr4.iv))], .sv a0 [(7, .ptr 1 0)], .lp b rr .ready none, .box 32 [.int .u64 E.hi, .int .u64 E.lo]])
    (fun k => k ≤ l.length) (fun k => l.length - k) 0 [6, 0, 1, 2, 3, 4, 5] (Nat.zero_le _) (by simp [renM]) ?_
  intro k hk
  by_cases hlt : k < l.length
  · have e1 : IntKind.i64.wrap (k + 1) = (k + 1 : Nat) := wrap64 (by omega) (by omega)
    have ht : ((List.range (k + 1)).map (spanAt six l)) = ((List.range k).map (spanAt six l)) ++ [spanAt six l k] := by rw [List.range_succ, List.map_append]; rfl
    have hll : ((List.range k).map (spanAt six l)).length = k := by simp
    have hat : spanAt six l k = ⟨l[k], if k + 1 < l.length then ofN ((l.getD (k + 1) zeroA).num - 1) else E⟩ := by
      unfold spanAt
      rw [List.getD_eq_getElem?_getD, List.getElem?_eq_getElem hlt, hE]
      rfl
    obtain ⟨x, hx⟩ : ∃ x, l[k] = x := ⟨_, rfl⟩
    rw [hx] at hat
    simp -implicitDefEqProofs [hlt, hx]
    simp -implicitDefEqProofs [e1]
    by_cases hn : k + 1 < l.length
    · have hp := prev_cut hw h hn
      have g3 := prev_spec six l[k + 1] (hw _ (List.getElem_mem _))
      rw [hp] at g3
      have hat2 : spanAt six l k = ⟨x, ofN (l[k + 1].num - 1)⟩ := by
        rw [hat, if_pos hn, List.getD_eq_getElem?_getD, List.getElem?_eq_getElem hn]; rfl
      rw [hat2] at ht
      generalize ofN (l[k + 1].num - 1) = PV at *
      obtain ⟨y, hy⟩ : ∃ y, l[k + 1] = y := ⟨_, rfl⟩
      rw [hy] at g3
      refine ⟨fun _ => ⟨⟨by omega, by omega⟩, ?_⟩, fun h => by omega⟩
      have hy2 : l[k + 1]? = some y := by rw [List.getElem?_eq_getElem hn, hy]
      simp -implicitDefEqProofs [hy2]
      first | refine CallK.same (g3) rfl rfl ?_ | refine CallQ.same (g3) rfl rfl ?_ | refine CallQG.same _ (g3) rfl ?_ | refine CallG.same _ (g3) rfl ?_ | refine CallK.pv (g3) rfl rfl ?_
      simp -implicitDefEqProofs
      refine ⟨4, _, rfl, rfl, rfl, fun aI => ?_⟩
      simp -implicitDefEqProofs [putL, asgK]
      refine ⟨5, by simp, ?_⟩
      simp -implicitDefEqProofs
      refine ⟨⟨by omega, by unfold maxLen; omega⟩, ?_⟩
      refine endRd_normal 9 5 (by simp; rfl) (by simp) ?_
      simp -implicitDefEqProofs
      refine Again.os (k + 1) [12, 1, 2, 3, 4, 5, 6] hlt (by omega) ?_
      have ht2 := congrArg (List.map Span4.iv) ht
      simp [List.map_map] at ht2
      simp -implicitDefEqProofs [e1, ht2, renM]
    · rw [hat, if_neg hn] at ht
      refine ⟨fun h => by omega, fun _ => ?_⟩
      refine ⟨4, _, rfl, rfl, rfl, fun aI => ?_⟩
      simp -implicitDefEqProofs [putL, asgK]
      refine ⟨5, by simp, ?_⟩
      simp -implicitDefEqProofs
      refine ⟨⟨by omega, by unfold maxLen; omega⟩, ?_⟩
      refine endRd_normal 9 5 (by simp; rfl) (by simp) ?_
      simp -implicitDefEqProofs
      refine Again.os (k + 1) [12, 1, 2, 3, 4, 5, 6] hlt (by omega) ?_
      have ht2 := congrArg (List.map Span4.iv) ht
      simp [List.map_map] at ht2
      simp -implicitDefEqProofs [e1, ht2, renM]
  · have hkk : k = l.length := by omega
    subst hkk
    have hf : (List.range l.length).map (spanAt six l) = spansF six l := rfl
    rw [hf]
    generalize spansF six l = S at *
    simp -implicitDefEqProofs
    refine ⟨4, _, 5, .ready, none, rfl, rfl, .inl rfl, ?_⟩
    simp -implicitDefEqProofs [pendK]
    refine EndZ.ret [0] (.tup [.row 0, .int .i64 0]) (by simp) ?_
    simp -implicitDefEqProofs
theorem spans_spec (six : Bool) (l : List Addr4) (hw : wfL l) : FSpec Tryz.prog 44 [.bool six, .im (.sl 2 (l.map Addr4.iv))] [] (.tup [.im (.sl 4 (if checkC six l = 0 then (spansF six l).map Span4.iv else [])), .int .i64 (if checkC six l = 0 then 0 else 2)]) [] := by
  by_cases h : checkC six l = 0
  · rw [if_pos h, if_pos h]
    exact spans_good six l hw h _ rfl
  · have g1 := checkC_spec six l hw
    have hv := checkC_two six l
    rw [if_neg h, if_neg h]
    rw [hv.resolve_left h] at g1
    refine FSpec.of_z (q := []) Tryz.func44 (by kernel_rfl) rfl Tryz.ntmps44 Tryz.results44 hP (by kernel_rfl) (by simp) (by first | rfl | simp) ?_
    simp -implicitDefEqProofs
    first | refine CallK.same (g1) rfl rfl ?_ | refine CallQ.same (g1) rfl rfl ?_ | refine CallQG.same _ (g1) rfl ?_ | refine CallG.same _ (g1) rfl ?_ | refine CallK.pv (g1) rfl rfl ?_
    simp -implicitDefEqProofs
    refine EndZ.ret [] (.tup [.im (.sc (.slice none 0 0)), .int .i64 2]) (by simp) ?_
    simp
end Go.Am


set_option linter.unusedVariables false
set_option linter.unusedSimpArgs false
set_option pp.deepTerms false
set_option pp.deepTerms.threshold 40
namespace Go.Am
open Go.Proofs

theorem prefixesO_spec (p : Past) (six : Bool) : FSpec Tryz.prog 103 [p.av, .bool six] [] (.fn 143 [.ptr 0 0, .ptr 1 0]) [pastO p, .box 4 [.bool six]] := by
  refine FSpec.of_o (q := []) Tryz.func103 (by kernel_rfl) rfl Tryz.ntmps103 Tryz.results103 hP (by kernel_rfl) (by simp) (by first | rfl | simp) ?_
  simp -implicitDefEqProofs
  refine EndO.ret [] [0, 1] (.fn 143 [.ptr 0 0, .ptr 1 0]) (by simp) ?_
  simp -implicitDefEqProofs
set_option maxRecDepth 8000 in
set_option maxHeartbeats 4000000 in
theorem ofP_spec (p : Past) (six : Bool) (hw : p.wf) (h : okP p = true) : FSpec Tryz.prog 66 [p.av, .bool six] [] (.im (.sl 2 ((cutsF p six).map Addr4.iv))) [] := by
  have hraw := rawC_wf hw h six
  have hlen := rawC_len h six
  have hsr := sortedA_spec (rawC p six) hraw (by unfold rawC; simp) (by omega)
  have hrt := okP_rt h
  have hev := okP_ev h
  have hcut : rawC p six = zeroA :: (roC six p.base.routers ++ evC six p.evs) := rfl
  have hro := roC_len six p.base.routers fun r hr => (okP_rt h r hr).1
  have hrl := netOk_len (okP_base h)
  have hel := okP_len h
  have hcf : cutsF p six = sortA (rawC p six) := rfl
  rw [← hcf] at hsr
  generalize cutsF p six = D at *
  refine FSpec.of_z (q := []) Tryz.func66 (by kernel_rfl) rfl Tryz.ntmps66 Tryz.results66 hP (by kernel_rfl) (by simp) (by first | rfl | simp) ?_
  simp -implicitDefEqProofs
  refine CallK.outs [] (prefixesO_spec p six) rfl (by simp) (by simp [AV.flat]) ?_
  simp -implicitDefEqProofs [rangeK]
  intro a0 b rr
  refine ⟨_, _, _, [], Tryz.func143, (by kernel_rfl), rfl, Tryz.ntmps143, Tryz.results143, (by kernel_rfl), (by simp), ?_⟩
  simp -implicitDefEqProofs
  refine LoopK.os (fun k : Nat => [(0, .yld 5), (1, .ptr 2 0), (2, .ptr 3 0), (12, .im (.sl 4 (p.base.routers.map Router.iv))), (13, .int .i64 p.base.routers.length), (14, .int .i64 k)])
    (fun k => [.row 32 2 ((zeroA :: roC six (p.base.routers.take k)).map Addr4.iv), .box 67 [.row 0], pastO p, .box 4 [.bool six], .sv a0 [(5, .ptr 1 0)], .lp b rr .ready none])
    (fun k => k ≤ p.base.routers.length) (fun k => p.base.routers.length - k) 0 [1, 2, 3, 4, 5, 6] (Nat.zero_le _) (by simp [roC, zeroA, renM]) ?_
  intro k hk
  by_cases hlt : k < p.base.routers.length
  · have e1 : IntKind.i64.wrap (k + 1) = (k + 1 : Nat) := wrap64 (by omega) (by omega)
    have ht : roC six (p.base.routers.take (k + 1)) = roC six (p.base.routers.take k) ++ rtC six p.base.routers[k].routes := flatMap_take _ hlt
    have hrk := hrt p.base.routers[k] (List.getElem_mem _)
    have hwk := hw.1 p.base.routers[k] (List.getElem_mem _)
    have hrok := roC_len six (p.base.routers.take k) fun r hr => (hrt r (List.mem_of_mem_take hr)).1
    rw [List.length_take] at hrok
    obtain ⟨r, hr⟩ : ∃ r, p.base.routers[k] = r := ⟨_, rfl⟩
    rw [hr] at ht hrk hwk
    generalize roC six (p.base.routers.take k) = A at *
    simp -implicitDefEqProofs [hlt, hr]
    refine LoopK.os (fun j : Nat => [(0, .yld 5), (1, .ptr 2 0), (2, .ptr 3 0), (12, .im (.sl 4 (p.base.routers.map Router.iv))), (13, .int .i64 p.base.routers.length), (14, .int .i64 k), (19, .im (.sl 6 (r.routes.map Route.iv))), (20, .int .i64 r.routes.length), (21, .int .i64 j)])
      (fun j => [.row 32 2 ((zeroA :: (A ++ rtC six (r.routes.take j))).map Addr4.iv), .box 67 [.row 0], pastO p, .box 4 [.bool six], .sv a0 [(5, .ptr 1 0)], .lp b rr .ready none])
      (fun j => j ≤ r.routes.length) (fun j => r.routes.length - j) 0 [0, 1, 2, 3, 4, 5] (Nat.zero_le _) (by simp [rtC, zeroA, renM]) ?_
    intro j hj
    by_cases hjl : j < r.routes.length
    · have e2 : IntKind.i64.wrap (j + 1) = (j + 1 : Nat) := wrap64 (by omega) (by omega)
      have htj : rtC six (r.routes.take (j + 1)) = rtC six (r.routes.take j) ++ (if r.routes[j].pfx.six = six then ofA r.routes[j].pfx else []) := flatMap_take _ hjl
      have hxl := rtC_len six (r.routes.take j)
      rw [List.length_take] at hxl
      obtain ⟨L, N, w, h1, h2, hwv, hO⟩ := of_parts (hwk _ (List.getElem_mem hjl)) (hrk.2 _ (List.getElem_mem hjl))
      obtain ⟨x, hx⟩ : ∃ x, r.routes[j] = x := ⟨_, rfl⟩
      rw [hx] at htj h1 h2 hO
      generalize rtC six (r.routes.take j) = B at *
      simp -implicitDefEqProofs [hjl, hx]
      refine ⟨fun h => ?_, fun h => ?_⟩
      · rw [if_pos h] at htj
        refine ⟨4, _, rfl, rfl, rfl, fun aI => ?_⟩
        simp -implicitDefEqProofs [putL, asgK]
        refine ⟨5, by simp, ?_⟩
        simp -implicitDefEqProofs
        refine CallK.outs [] (ofo_spec x.pfx) rfl (by simp) (by simp [AV.flat]) ?_
        simp -implicitDefEqProofs [rangeI, rangeK]
        refine ⟨⟨5, _, _, _, rfl⟩, fun a1 b1 r1 => ?_⟩
        refine ⟨_, _, _, [], Tryz.func109, (by kernel_rfl), rfl, Tryz.ntmps109, Tryz.results109, (by kernel_rfl), (by simp), ?_⟩
        simp -implicitDefEqProofs
        first | refine CallK.same (h1) rfl rfl ?_ | refine CallQ.same (h1) rfl rfl ?_ | refine CallQG.same _ (h1) rfl ?_ | refine CallG.same _ (h1) rfl ?_ | refine CallK.pv (h1) rfl rfl ?_
        simp -implicitDefEqProofs
        first | refine CallK.same (h2) rfl rfl ?_ | refine CallQ.same (h2) rfl rfl ?_ | refine CallQG.same _ (h2) rfl ?_ | refine CallG.same _ (h2) rfl ?_ | refine CallK.pv (h2) rfl rfl ?_
        simp -implicitDefEqProofs
        refine ⟨10, _, rfl, rfl, rfl, fun aJ => ?_⟩
        simp -implicitDefEqProofs [putL, asgK]
        refine ⟨11, by simp, ?_⟩
        simp -implicitDefEqProofs
        refine ⟨⟨by omega, by unfold maxLen; omega⟩, ?_⟩
        refine endRd_normal 14 11 (by simp; rfl) (by simp) ?_
        rcases hwv with rfl | rfl
        · simp -implicitDefEqProofs
          refine ⟨10, _, rfl, rfl, rfl, fun aK => ?_⟩
          simp -implicitDefEqProofs [putL, asgK]
          refine ⟨11, by simp, ?_⟩
          simp -implicitDefEqProofs
          refine ⟨⟨by omega, by unfold maxLen; omega⟩, ?_⟩
          refine endRd_normal 18 11 (by simp; rfl) (by simp) ?_
          simp -implicitDefEqProofs
          refine ⟨10, _, 11, .ready, none, rfl, rfl, .inl rfl, ?_⟩
          simp -implicitDefEqProofs [pendK]
          refine endRd_normal 7 5 (by simp; rfl) (by simp) ?_
          simp -implicitDefEqProofs [h]
          rw [if_pos rfl] at hO
          refine Again.os (j + 1) [21, 1, 2, 3, 4, 5] hjl (by omega) ?_
          simp -implicitDefEqProofs [e2, htj, hO, renM]
        · simp -implicitDefEqProofs
          refine ⟨10, _, 11, .ready, none, rfl, rfl, .inl rfl, ?_⟩
          simp -implicitDefEqProofs [pendK]
          refine endRd_normal 7 5 (by simp; rfl) (by simp) ?_
          simp -implicitDefEqProofs [h]
          rw [if_neg (by decide)] at hO
          refine Again.os (j + 1) [17, 1, 2, 3, 4, 5] hjl (by omega) ?_
          simp -implicitDefEqProofs [e2, htj, hO, renM]
      · rw [if_neg h, List.append_nil] at htj
        refine ⟨fun hh => absurd hh h, fun _ => ?_⟩
        refine Again.os (j + 1) [0, 1, 2, 3, 4, 5] hjl (by omega) ?_
        simp -implicitDefEqProofs [e2, htj, renM]
    · have hjj : j = r.routes.length := by omega
      subst hjj
      rw [List.take_length]
      simp -implicitDefEqProofs
      refine Again.os (k + 1) [0, 1, 2, 3, 4, 5] hlt (by omega) ?_
      simp -implicitDefEqProofs [e1, ht, renM]
  · have hkk : k = p.base.routers.length := by omega
    subst hkk
    rw [List.take_length]
    simp -implicitDefEqProofs
    generalize roC six p.base.routers = A at *
    refine LoopK.os (fun k : Nat => [(0, .yld 5), (1, .ptr 2 0), (2, .ptr 3 0), (40, .im (.sl 12 (p.evs.map Ev.iv))), (41, .int .i64 p.evs.length), (42, .int .i64 k)])
      (fun k => [.row 32 2 ((zeroA :: (A ++ evC six (p.evs.take k))).map Addr4.iv), .box 67 [.row 0], pastO p, .box 4 [.bool six], .sv a0 [(5, .ptr 1 0)], .lp b rr .ready none])
      (fun k => k ≤ p.evs.length) (fun k => p.evs.length - k) 0 [0, 1, 2, 3, 4, 5] (Nat.zero_le _) (by simp [evC, renM]) ?_
    intro k hk
    by_cases hlt : k < p.evs.length
    · have e1 : IntKind.i64.wrap (k + 1) = (k + 1 : Nat) := wrap64 (by omega) (by omega)
      have ht : evC six (p.evs.take (k + 1)) = evC six (p.evs.take k) ++ (if p.evs[k].kind = 3 ∧ p.evs[k].pfx.six = six then ofA p.evs[k].pfx else []) := flatMap_take _ hlt
      have hxl := evC_len six (p.evs.take k)
      rw [List.length_take] at hxl
      have hxm : p.evs[k] ∈ p.evs := List.getElem_mem hlt
      obtain ⟨x, hx⟩ : ∃ x, p.evs[k] = x := ⟨_, rfl⟩
      rw [hx] at ht hxm
      generalize evC six (p.evs.take k) = B at *
      simp -implicitDefEqProofs [hlt, hx]
      refine ⟨fun hk3 h => ?_, fun h => ⟨fun hk3 h2 => absurd h2 (h hk3), fun _ => ?_⟩⟩
      · rw [if_pos ⟨hk3, h⟩] at ht
        obtain ⟨L, N, w, h1, h2, hwv, hO⟩ := of_parts (hw.2 x hxm).2 (hev x hxm hk3)
        refine ⟨4, _, rfl, rfl, rfl, fun aI => ?_⟩
        simp -implicitDefEqProofs [putL, asgK]
        refine ⟨5, by simp, ?_⟩
        simp -implicitDefEqProofs
        refine CallK.outs [] (ofo_spec x.pfx) rfl (by simp) (by simp [AV.flat]) ?_
        simp -implicitDefEqProofs [rangeI, rangeK]
        refine ⟨⟨5, _, _, _, rfl⟩, fun a1 b1 r1 => ?_⟩
        refine ⟨_, _, _, [], Tryz.func109, (by kernel_rfl), rfl, Tryz.ntmps109, Tryz.results109, (by kernel_rfl), (by simp), ?_⟩
        simp -implicitDefEqProofs
        first | refine CallK.same (h1) rfl rfl ?_ | refine CallQ.same (h1) rfl rfl ?_ | refine CallQG.same _ (h1) rfl ?_ | refine CallG.same _ (h1) rfl ?_ | refine CallK.pv (h1) rfl rfl ?_
        simp -implicitDefEqProofs
        first | refine CallK.same (h2) rfl rfl ?_ | refine CallQ.same (h2) rfl rfl ?_ | refine CallQG.same _ (h2) rfl ?_ | refine CallG.same _ (h2) rfl ?_ | refine CallK.pv (h2) rfl rfl ?_
        simp -implicitDefEqProofs
        refine ⟨10, _, rfl, rfl, rfl, fun aJ => ?_⟩
        simp -implicitDefEqProofs [putL, asgK]
        refine ⟨11, by simp, ?_⟩
        simp -implicitDefEqProofs
        refine ⟨⟨by omega, by unfold maxLen; omega⟩, ?_⟩
        refine endRd_normal 14 11 (by simp; rfl) (by simp) ?_
        rcases hwv with rfl | rfl
        · simp -implicitDefEqProofs
          refine ⟨10, _, rfl, rfl, rfl, fun aK => ?_⟩
          simp -implicitDefEqProofs [putL, asgK]
          refine ⟨11, by simp, ?_⟩
          simp -implicitDefEqProofs
          refine ⟨⟨by omega, by unfold maxLen; omega⟩, ?_⟩
          refine endRd_normal 18 11 (by simp; rfl) (by simp) ?_
          simp -implicitDefEqProofs
          refine ⟨10, _, 11, .ready, none, rfl, rfl, .inl rfl, ?_⟩
          simp -implicitDefEqProofs [pendK]
          refine endRd_normal 7 5 (by simp; rfl) (by simp) ?_
          simp -implicitDefEqProofs [hk3, h]
          rw [if_pos rfl] at hO
          refine Again.os (k + 1) [21, 1, 2, 3, 4, 5] hlt (by omega) ?_
          simp -implicitDefEqProofs [e1, ht, hO, renM]
        · simp -implicitDefEqProofs
          refine ⟨10, _, 11, .ready, none, rfl, rfl, .inl rfl, ?_⟩
          simp -implicitDefEqProofs [pendK]
          refine endRd_normal 7 5 (by simp; rfl) (by simp) ?_
          simp -implicitDefEqProofs [hk3, h]
          rw [if_neg (by decide)] at hO
          refine Again.os (k + 1) [17, 1, 2, 3, 4, 5] hlt (by omega) ?_
          simp -implicitDefEqProofs [e1, ht, hO, renM]
      · rw [if_neg (fun hh => h hh.1 hh.2), List.append_nil] at ht
        refine Again.os (k + 1) [0, 1, 2, 3, 4, 5] hlt (by omega) ?_
        simp -implicitDefEqProofs [e1, ht, renM]
    · have hkk : k = p.evs.length := by omega
      subst hkk
      rw [List.take_length, ← hcut]
      generalize rawC p six = R at *
      simp -implicitDefEqProofs
      refine ⟨4, _, 5, .ready, none, rfl, rfl, .inl rfl, ?_⟩
      simp -implicitDefEqProofs [pendK]
      refine CallO.mk [] [0] hsr (by simp) rfl (by simp) (by simp) (by simp) ?_
      simp -implicitDefEqProofs
      refine EndZ.ret [] (.im (.sl 2 (D.map Addr4.iv))) (by simp) ?_
      simp -implicitDefEqProofs
theorem cuts_spec (p : Past) (six : Bool) (hw : p.wf) : FSpec Tryz.prog 34 [p.av, .bool six] [] (.tup [.im (.sl 2 ((if okP p then cutsF p six else []).map Addr4.iv)), .int .i64 (if okP p then 0 else 2)]) [] := by
  have h1 := checkP_spec_ p fun e he => (hw.2 e he).1
  cases h : okP p with
  | true =>
    rw [h] at h1
    have h2 := ofP_spec p six hw h
    generalize cutsF p six = D at *
    refine FSpec.of_z (q := []) Tryz.func34 (by kernel_rfl) rfl Tryz.ntmps34 Tryz.results34 hP (by kernel_rfl) (by simp) (by first | rfl | simp) ?_
    simp -implicitDefEqProofs
    first | refine CallK.same (h1) rfl rfl ?_ | refine CallQ.same (h1) rfl rfl ?_ | refine CallQG.same _ (h1) rfl ?_ | refine CallG.same _ (h1) rfl ?_ | refine CallK.pv (h1) rfl rfl ?_
    simp -implicitDefEqProofs
    first | refine CallK.same (h2) rfl rfl ?_ | refine CallQ.same (h2) rfl rfl ?_ | refine CallQG.same _ (h2) rfl ?_ | refine CallG.same _ (h2) rfl ?_ | refine CallK.pv (h2) rfl rfl ?_
    simp -implicitDefEqProofs
    refine EndZ.ret [] (.tup [.im (.sl 2 (D.map Addr4.iv)), .int .i64 0]) (by simp) ?_
    simp -implicitDefEqProofs
  | false =>
    rw [h] at h1
    refine FSpec.of_z (q := []) Tryz.func34 (by kernel_rfl) rfl Tryz.ntmps34 Tryz.results34 hP (by kernel_rfl) (by simp) (by first | rfl | simp) ?_
    simp -implicitDefEqProofs
    first | refine CallK.same (h1) rfl rfl ?_ | refine CallQ.same (h1) rfl rfl ?_ | refine CallQG.same _ (h1) rfl ?_ | refine CallG.same _ (h1) rfl ?_ | refine CallK.pv (h1) rfl rfl ?_
    simp -implicitDefEqProofs
    refine EndZ.ret [] (.tup [.im (.sc (.slice none 0 0)), .int .i64 2]) (by simp) ?_
    simp
end Go.Am


set_option linter.unusedVariables false
set_option linter.unusedSimpArgs false
set_option pp.deepTerms false
set_option pp.deepTerms.threshold 40
namespace Go.Am
open Go.Proofs

end Go.Am


set_option linter.unusedVariables false
set_option linter.unusedSimpArgs false
set_option pp.deepTerms false
set_option pp.deepTerms.threshold 40
namespace Go.Am
open Go.Proofs

theorem atO_spec (p : Past) (t : Int) (hew : ∀ e ∈ p.evs, 0 ≤ e.seq) : FSpec Tryz.prog 27 [p.av, .int .i64 t] []
    (.tup [(if okP p = true ∧ askT p t = 0 then thenF p t else net0).av, .int .i64 (if okP p then askT p t else 2)]) [] := by
  have h := atP_spec p t hew
  have e : (if okP p then (if askT p t = 0 then thenW p t else askT p t) else 2) = if okP p then askT p t else 2 := by
    by_cases hok : okP p = true
    · rw [if_pos hok, if_pos hok]
      by_cases hb : askT p t = 0
      · rw [if_pos hb, hb, thenW_ok hok]
      · rw [if_neg hb]
    · rw [if_neg hok, if_neg hok]
  rw [e] at h
  exact h
def lE1 : Ev := ⟨1, 4, 1, 5, ⟨false, ⟨0, 0⟩, 0⟩, ⟨0, 0⟩, 0, 0⟩
def lE2 : Ev := ⟨5, 4, 2, 8, ⟨false, ⟨0, 0⟩, 0⟩, ⟨0, 0⟩, 3, 7⟩
def lP0 : Past := ⟨⟨[], []⟩, -1, []⟩
def lP1 : Past := ⟨⟨[], []⟩, -1, [lE1]⟩
def lP2 : Past := ⟨⟨[], []⟩, -1, [lE1, lE2]⟩
theorem l1 : takeP lP0 lE1 = (lP1, 0) := by kernel_rfl
theorem l2 : takeP lP1 lE2 = (lP2, 0) := by kernel_rfl
theorem s1 : FSpec Tryz.prog 15 [lP0.av, lE1.av] [] (.tup [lP1.av, .int .i64 0]) [] := by
  have h := takePo_spec lP0 lE1 (by intro e he; cases he) (by decide)
  rw [l1] at h; exact h
end Go.Am


set_option linter.unusedVariables false
set_option linter.unusedSimpArgs false
set_option pp.deepTerms false
set_option pp.deepTerms.threshold 40
namespace Go.Am
open Go.Proofs

def vT : Pfx := ⟨false, ⟨0, 167772160⟩, 8⟩
def vQ : Pfx := ⟨false, ⟨0, 176160768⟩, 9⟩
def vE1 : Ev := ⟨1, 4, 1, 0, ⟨false, ⟨0, 0⟩, 0⟩, ⟨0, 0⟩, 0, 0⟩
def vE2 : Ev := ⟨3, 4, 2, 0, vT, ⟨2, 0⟩, 0, 0⟩
def vP1 : Past := ⟨⟨[], []⟩, -1, [vE1]⟩
def vP2 : Past := ⟨⟨[], []⟩, -1, [vE1, vE2]⟩
def vC : List Addr4 := [⟨0, 0⟩, ⟨0, 167772160⟩, ⟨0, 184549376⟩]
def vD : List Addr4 := [⟨0, 0⟩]
def vM : List Addr4 := [⟨0, 0⟩, ⟨0, 167772160⟩, ⟨0, 176160768⟩, ⟨0, 184549376⟩]
def vS : List Span4 := [⟨⟨0, 0⟩, ⟨0, 167772159⟩⟩, ⟨⟨0, 167772160⟩, ⟨0, 184549375⟩⟩, ⟨⟨0, 184549376⟩, ⟨0, 4294967295⟩⟩]
theorem vl1 : takeP lP0 vE1 = (vP1, 0) := by kernel_rfl
theorem vl2 : takeP vP1 vE2 = (vP2, 0) := by kernel_rfl
theorem vl3 : okP vP2 = true := by kernel_rfl
theorem vl4 : cutsF vP2 false = vC := by kernel_rfl
theorem vl5 : cutsF vP2 true = vD := by kernel_rfl
theorem vl6 : whereF false vC ⟨0, 167772165⟩ = (1, 0) := by kernel_rfl
theorem vl7 : checkC false vC = 0 := by kernel_rfl
theorem vl8 : spansF false vC = vS := by kernel_rfl
theorem vl9 : splitF false vC vQ = (vM, 0) := by kernel_rfl
theorem vl10 : splitF true vC vT = ([], 2) := by kernel_rfl
theorem vw : vP2.wf := ⟨by intro r hr; simp [vP2] at hr, by intro e he; simp [vP2, vE1, vE2, vT] at he; rcases he with rfl | rfl <;> refine ⟨by decide, ?_⟩ <;> unfold Addr4.wf <;> decide⟩
theorem vwc : wfL vC := by intro a ha; simp [vC] at ha; rcases ha with rfl | rfl | rfl <;> unfold Addr4.wf <;> decide
theorem vs1 : FSpec Tryz.prog 15 [lP0.av, vE1.av] [] (.tup [vP1.av, .int .i64 0]) [] := by
  have h := takePo_spec lP0 vE1 (by intro e he; cases he) (by decide)
  rw [vl1] at h; exact h
theorem vs2 : FSpec Tryz.prog 15 [vP1.av, vE2.av] [] (.tup [vP2.av, .int .i64 0]) [] := by
  have h := takePo_spec vP1 vE2 (by intro e he; simp [vP1, vE1] at he; subst he; decide) (by decide)
  rw [vl2] at h; exact h
theorem vs3 : FSpec Tryz.prog 34 [vP2.av, .bool false] [] (.tup [.im (.sl 2 (vC.map Addr4.iv)), .int .i64 0]) [] := by
  have h := cuts_spec vP2 false vw
  rw [if_pos vl3, if_pos vl3, vl4] at h; exact h
theorem vs4 : FSpec Tryz.prog 34 [vP2.av, .bool true] [] (.tup [.im (.sl 2 (vD.map Addr4.iv)), .int .i64 0]) [] := by
  have h := cuts_spec vP2 true vw
  rw [if_pos vl3, if_pos vl3, vl5] at h; exact h
theorem vs5 : FSpec Tryz.prog 42 [.bool false, .im (.sl 2 (vC.map Addr4.iv)), (Addr4.mk 0 167772165).av] [] (.tup [.int .i64 1, .int .i64 0]) [] := by
  have h := where_spec false vC ⟨0, 167772165⟩ vwc (by unfold Addr4.wf; decide)
  rw [vl6] at h; exact h
theorem vs6 : FSpec Tryz.prog 44 [.bool false, .im (.sl 2 (vC.map Addr4.iv))] [] (.tup [.im (.sl 4 (vS.map Span4.iv)), .int .i64 0]) [] := by
  have h := spans_spec false vC vwc
  rw [if_pos vl7, if_pos vl7, vl8] at h; exact h
theorem vs7 : FSpec Tryz.prog 40 [.bool false, .im (.sl 2 (vC.map Addr4.iv)), vQ.av] [] (.tup [.im (.sl 2 (vM.map Addr4.iv)), .int .i64 0]) [] := by
  have h := split_spec false vC vQ vwc (by unfold vQ Addr4.wf; decide)
  rw [vl9] at h; exact h
theorem vs8 : FSpec Tryz.prog 40 [.bool true, .im (.sl 2 (vC.map Addr4.iv)), vT.av] [] (.tup [.im (.sl 2 (([] : List Addr4).map Addr4.iv)), .int .i64 2]) [] := by
  have h := split_spec true vC vT vwc (by unfold vT Addr4.wf; decide)
  rw [vl10] at h; exact h
theorem vs9 : FSpec Tryz.prog 38 [.bool false, .im (.sl 2 (vC.map Addr4.iv))] [] (.int .i64 0) [] := by
  have h := checkC_spec false vC vwc
  rw [vl7] at h; exact h
set_option maxRecDepth 8000 in
set_option maxHeartbeats 4000000 in
theorem lives22_spec : FSpec Tryz.prog 36 [] [] (.bool true) [] := by
  have h1 := vs1
  have h2 := vs2
  have h3 := vs3
  have h4 := vs4
  have h5 := vs5
  have h6 := vs6
  have h7 := vs7
  have h8 := vs8
  have h9 := vs9
  simp [lP0, vE1, vP1, vE2, vP2, vC, vD, vS, vQ, vT, vM] at h1 h2 h3 h4 h5 h6 h7 h8 h9
  refine FSpec.of_flat (q := []) Tryz.func36 (by kernel_rfl) rfl Tryz.ntmps36 Tryz.results36 hP (by kernel_rfl) (by simp) (by first | rfl | simp) ?_
  simp -implicitDefEqProofs
  first | refine CallK.same (makePo_spec) rfl rfl ?_ | refine CallQ.same (makePo_spec) rfl rfl ?_ | refine CallQG.same _ (makePo_spec) rfl ?_ | refine CallG.same _ (makePo_spec) rfl ?_ | refine CallK.pv (makePo_spec) rfl rfl ?_
  simp -implicitDefEqProofs
  refine CallK.v0 h1 rfl (by simp) rfl ?_
  simp -implicitDefEqProofs
  refine CallK.v0 h2 rfl (by simp) rfl ?_
  simp -implicitDefEqProofs
  refine CallK.v0 h3 rfl (by simp) rfl ?_
  simp -implicitDefEqProofs
  refine CallK.v0 h4 rfl (by simp) rfl ?_
  simp -implicitDefEqProofs
  refine CallK.v0 h5 rfl (by simp) rfl ?_
  simp -implicitDefEqProofs
  refine CallK.v0 h6 rfl (by simp) rfl ?_
  simp -implicitDefEqProofs
  refine CallK.v0 h7 rfl (by simp) rfl ?_
  simp -implicitDefEqProofs
  refine CallK.v0 h8 rfl (by simp) rfl ?_
  simp -implicitDefEqProofs
  first | refine CallG.on ?_ | skip
  refine CallK.v0 h9 rfl (by simp) rfl ?_
  simp -implicitDefEqProofs
end Go.Am


set_option linter.unusedVariables false
set_option linter.unusedSimpArgs false
set_option pp.deepTerms false
set_option pp.deepTerms.threshold 40
namespace Go.Am
open Go.Proofs

theorem rows_of {α : Type} {f : α → List IV} {Q : α → Prop} {l : List Sh} (h : ∀ y, Sh.hasL l y → ∃ a, Q a ∧ y = f a) : ∀ xs : List (List IV), (∀ y ∈ xs, Sh.hasL l y) → ∃ zs : List α, xs = zs.map f ∧ ∀ a ∈ zs, Q a
  | [], _ => ⟨[], rfl, fun a ha => by cases ha⟩
  | x :: xs, hx => by
    obtain ⟨a, h1, h2⟩ := h x (hx x List.mem_cons_self)
    obtain ⟨zs, h3, h4⟩ := rows_of h xs fun y hy => hx y (List.mem_cons_of_mem _ hy)
    exact ⟨a :: zs, by rw [h2, h3]; rfl, fun b hb => by
      rcases List.mem_cons.1 hb with rfl | hb
      · exact h1
      · exact h4 b hb⟩
theorem hasL_cons {s : Sh} {l : List Sh} {xs : List IV} (h : Sh.hasL (s :: l) xs) : ∃ y ys, xs = y :: ys ∧ s.has y ∧ Sh.hasL l ys := by simpa only [Sh.hasL] using h
theorem hasL_nil {xs : List IV} (h : Sh.hasL [] xs) : xs = [] := by simpa only [Sh.hasL] using h
theorem has_int {q : IntKind} {x : IV} (h : (Sh.int q).has x) : ∃ n : Int, x = .sc (.int q n) ∧ (Lit.int q n).wf = true := by simpa only [Sh.has] using h
theorem has_bool {x : IV} (h : Sh.bool.has x) : ∃ b : Bool, x = .sc (.bool b) := by simpa only [Sh.has] using h
theorem has_sl {l : List Sh} {x : IV} (h : (Sh.sl l).has x) : ∃ xs : List (List IV), x = .sl l.length xs ∧ ∀ y ∈ xs, Sh.hasL l y := by simpa only [Sh.has] using h
theorem u64_wf {n : Int} (h : (Lit.int .u64 n).wf = true) : 0 ≤ n ∧ n < 18446744073709551616 := by
  simp [Lit.wf, IntKind.min, IntKind.max, IntKind.signed, IntKind.bits] at h
  omega
def seatSh : List Sh := [.int .i64, .int .u64, .int .i64, .bool]
def routeSh : List Sh := [.bool, .int .u64, .int .u64, .int .i64, .int .u8, .int .i64]
def linkSh : List Sh := [.int .i64, .int .i64]
def routerSh : List Sh := [.int .i64, .bool, .sl routeSh, .sl linkSh]
def addrSh : List Sh := [.int .u64, .int .u64]
theorem seat_of (y : List IV) (h : Sh.hasL seatSh y) : ∃ s : Seat, True ∧ y = s.iv := by
  obtain ⟨a, _, rfl, ha, h⟩ := hasL_cons h
  obtain ⟨b, _, rfl, hb, h⟩ := hasL_cons h
  obtain ⟨c, _, rfl, hc, h⟩ := hasL_cons h
  obtain ⟨d, _, rfl, hd, h⟩ := hasL_cons h
  cases hasL_nil h
  obtain ⟨a, rfl, _⟩ := has_int ha
  obtain ⟨b, rfl, _⟩ := has_int hb
  obtain ⟨c, rfl, _⟩ := has_int hc
  obtain ⟨d, rfl⟩ := has_bool hd
  exact ⟨⟨a, b, c, d⟩, trivial, rfl⟩
theorem link_of (y : List IV) (h : Sh.hasL linkSh y) : ∃ s : Link, True ∧ y = s.iv := by
  obtain ⟨a, _, rfl, ha, h⟩ := hasL_cons h
  obtain ⟨b, _, rfl, hb, h⟩ := hasL_cons h
  cases hasL_nil h
  obtain ⟨a, rfl, _⟩ := has_int ha
  obtain ⟨b, rfl, _⟩ := has_int hb
  exact ⟨⟨a, b⟩, trivial, rfl⟩
theorem route_of (y : List IV) (h : Sh.hasL routeSh y) : ∃ s : Route, s.pfx.addr.wf ∧ y = s.iv := by
  obtain ⟨a, _, rfl, ha, h⟩ := hasL_cons h
  obtain ⟨b, _, rfl, hb, h⟩ := hasL_cons h
  obtain ⟨c, _, rfl, hc, h⟩ := hasL_cons h
  obtain ⟨d, _, rfl, hd, h⟩ := hasL_cons h
  obtain ⟨e, _, rfl, he, h⟩ := hasL_cons h
  obtain ⟨f, _, rfl, hf, h⟩ := hasL_cons h
  cases hasL_nil h
  obtain ⟨a, rfl⟩ := has_bool ha
  obtain ⟨b, rfl, wb⟩ := has_int hb
  obtain ⟨c, rfl, wc⟩ := has_int hc
  obtain ⟨d, rfl, _⟩ := has_int hd
  obtain ⟨e, rfl, _⟩ := has_int he
  obtain ⟨f, rfl, _⟩ := has_int hf
  exact ⟨⟨⟨a, ⟨b, c⟩, d⟩, ⟨e, f⟩⟩, ⟨(u64_wf wb).1, (u64_wf wb).2, u64_wf wc⟩, rfl⟩
theorem router_of (y : List IV) (h : Sh.hasL routerSh y) : ∃ s : Router, s.wf ∧ y = s.iv := by
  obtain ⟨a, _, rfl, ha, h⟩ := hasL_cons h
  obtain ⟨b, _, rfl, hb, h⟩ := hasL_cons h
  obtain ⟨c, _, rfl, hc, h⟩ := hasL_cons h
  obtain ⟨d, _, rfl, hd, h⟩ := hasL_cons h
  cases hasL_nil h
  obtain ⟨a, rfl, _⟩ := has_int ha
  obtain ⟨b, rfl⟩ := has_bool hb
  obtain ⟨c, rfl, wc⟩ := has_sl hc
  obtain ⟨d, rfl, wd⟩ := has_sl hd
  obtain ⟨rs, rfl, hr⟩ := rows_of route_of c wc
  obtain ⟨ls, rfl, _⟩ := rows_of link_of d wd
  exact ⟨⟨a, b, rs, ls⟩, hr, rfl⟩
theorem addr_of (y : List IV) (h : Sh.hasL addrSh y) : ∃ a : Addr4, a.wf ∧ y.map AV.im = [.int .u64 a.hi, .int .u64 a.lo] := by
  obtain ⟨a, _, rfl, ha, h⟩ := hasL_cons h
  obtain ⟨b, _, rfl, hb, h⟩ := hasL_cons h
  cases hasL_nil h
  obtain ⟨a, rfl, wa⟩ := has_int ha
  obtain ⟨b, rfl, wb⟩ := has_int hb
  exact ⟨⟨a, b⟩, ⟨(u64_wf wa).1, (u64_wf wa).2, u64_wf wb⟩, rfl⟩
theorem hasArgs_cons {s : List Sh} {l : List (List Sh)} {xs : List (List IV)} (h : hasArgs (s :: l) xs) : ∃ y ys, xs = y :: ys ∧ Sh.hasL s y ∧ hasArgs l ys := h
end Go.Am


set_option linter.unusedVariables false
set_option linter.unusedSimpArgs false
set_option pp.deepTerms false
set_option pp.deepTerms.threshold 40
namespace Go.Am
open Go.Proofs

def evSh : List Sh := [.int .u8, .int .i64, .int .u64, .int .i64, .bool, .int .u64, .int .u64, .int .i64, .int .u8, .int .i64, .int .i64, .int .i64]
def pastSh : List Sh := [.sl seatSh, .sl routerSh, .int .i64, .sl evSh]
theorem ev_of (y : List IV) (h : Sh.hasL evSh y) : ∃ e : Ev, (0 ≤ e.seq ∧ e.pfx.addr.wf) ∧ y = e.iv := by
  obtain ⟨a, _, rfl, ha, h⟩ := hasL_cons h
  obtain ⟨b, _, rfl, hb, h⟩ := hasL_cons h
  obtain ⟨c, _, rfl, hc, h⟩ := hasL_cons h
  obtain ⟨d, _, rfl, hd, h⟩ := hasL_cons h
  obtain ⟨e, _, rfl, he, h⟩ := hasL_cons h
  obtain ⟨f, _, rfl, hf, h⟩ := hasL_cons h
  obtain ⟨g, _, rfl, hg, h⟩ := hasL_cons h
  obtain ⟨i, _, rfl, hi, h⟩ := hasL_cons h
  obtain ⟨j, _, rfl, hj, h⟩ := hasL_cons h
  obtain ⟨k, _, rfl, hk, h⟩ := hasL_cons h
  obtain ⟨l, _, rfl, hl, h⟩ := hasL_cons h
  obtain ⟨m, _, rfl, hm, h⟩ := hasL_cons h
  cases hasL_nil h
  obtain ⟨a, rfl, _⟩ := has_int ha
  obtain ⟨b, rfl, _⟩ := has_int hb
  obtain ⟨c, rfl, wc⟩ := has_int hc
  obtain ⟨d, rfl, _⟩ := has_int hd
  obtain ⟨e, rfl⟩ := has_bool he
  obtain ⟨f, rfl, wf⟩ := has_int hf
  obtain ⟨g, rfl, wg⟩ := has_int hg
  obtain ⟨i, rfl, _⟩ := has_int hi
  obtain ⟨j, rfl, _⟩ := has_int hj
  obtain ⟨k, rfl, _⟩ := has_int hk
  obtain ⟨l, rfl, _⟩ := has_int hl
  obtain ⟨m, rfl, _⟩ := has_int hm
  exact ⟨⟨a, b, c, d, ⟨e, ⟨f, g⟩, i⟩, ⟨j, k⟩, l, m⟩, ⟨(u64_wf wc).1, ⟨(u64_wf wf).1, (u64_wf wf).2, u64_wf wg⟩⟩, rfl⟩
theorem past_of (y : List IV) (h : Sh.hasL pastSh y) : ∃ p : Past, p.wf ∧ y.map AV.im = [.im (.sl 4 (p.base.seats.map Seat.iv)), .im (.sl 4 (p.base.routers.map Router.iv)), .int .i64 p.hz, .im (.sl 12 (p.evs.map Ev.iv))] := by
  obtain ⟨a, _, rfl, ha, h⟩ := hasL_cons h
  obtain ⟨b, _, rfl, hb, h⟩ := hasL_cons h
  obtain ⟨c, _, rfl, hc, h⟩ := hasL_cons h
  obtain ⟨d, _, rfl, hd, h⟩ := hasL_cons h
  cases hasL_nil h
  obtain ⟨a, rfl, wa⟩ := has_sl ha
  obtain ⟨b, rfl, wb⟩ := has_sl hb
  obtain ⟨c, rfl, _⟩ := has_int hc
  obtain ⟨d, rfl, wd⟩ := has_sl hd
  obtain ⟨ss, rfl, _⟩ := rows_of seat_of a wa
  obtain ⟨rs, rfl, hr⟩ := rows_of router_of b wb
  obtain ⟨es, rfl, hes⟩ := rows_of ev_of d wd
  exact ⟨⟨⟨ss, rs⟩, c, es⟩, ⟨hr, hes⟩, rfl⟩
theorem int1_of {x : List IV} (h : Sh.hasL [.int .i64] x) : ∃ t : Int, x = [.sc (.int .i64 t)] := by
  obtain ⟨a, _, rfl, ha, h⟩ := hasL_cons h
  cases hasL_nil h
  obtain ⟨a, rfl, _⟩ := has_int ha
  exact ⟨a, rfl⟩
end Go.Am


set_option linter.unusedVariables false
set_option linter.unusedSimpArgs false
set_option pp.deepTerms false
set_option pp.deepTerms.threshold 40
namespace Go.Am
open Go.Proofs

theorem past_arg (y : List IV) (h : Sh.hasL pastSh y) : ∃ p : Past, p.wf ∧ argAV Tryz.prog 28 y = p.av := by
  obtain ⟨p, hp, ep⟩ := past_of y h
  refine ⟨p, hp, ?_⟩
  simp only [argAV, Tryz.underlying28, ep]
  rfl
theorem int_arg (y : List IV) (h : Sh.hasL [.int .i64] y) : ∃ t : Int, argAV Tryz.prog 2 y = .int .i64 t := by
  obtain ⟨t, rfl⟩ := int1_of h
  refine ⟨t, ?_⟩
  simp only [argAV, Tryz.underlying2]
end Go.Am


set_option linter.unusedVariables false
set_option linter.unusedSimpArgs false
set_option pp.deepTerms false
set_option pp.deepTerms.threshold 40
namespace Go.Am
open Go.Proofs

theorem bool_arg (y : List IV) (h : Sh.hasL [.bool] y) : ∃ t : Bool, argAV Tryz.prog 4 y = .bool t := by
  obtain ⟨a, _, rfl, ha, h⟩ := hasL_cons h
  cases hasL_nil h
  obtain ⟨a, rfl⟩ := has_bool ha
  refine ⟨a, ?_⟩
  simp only [argAV, Tryz.underlying4]
theorem addr_arg (y : List IV) (h : Sh.hasL addrSh y) : ∃ a : Addr4, a.wf ∧ argAV Tryz.prog 32 y = a.av := by
  obtain ⟨a, ha, ea⟩ := addr_of y h
  refine ⟨a, ha, ?_⟩
  simp only [argAV, Tryz.underlying32, ea]
  rfl
theorem args_alike {xs : List (List IV)} (h : hasArgs [pastSh, [.bool], addrSh, addrSh, [.int .i64]] xs) : ∃ (p : Past) (six : Bool) (a b : Addr4) (t : Int), p.wf ∧ a.wf ∧ b.wf ∧ argsAV Tryz.prog [28, 4, 32, 32, 2] xs = [p.av, .bool six, a.av, b.av, .int .i64 t] := by
  obtain ⟨x, _, rfl, hx, h⟩ := hasArgs_cons h
  obtain ⟨y, _, rfl, hy, h⟩ := hasArgs_cons h
  obtain ⟨z, _, rfl, hz, h⟩ := hasArgs_cons h
  obtain ⟨u, _, rfl, hu, h⟩ := hasArgs_cons h
  obtain ⟨v, _, rfl, hv, h⟩ := hasArgs_cons h
  cases h
  obtain ⟨p, hp, ep⟩ := past_arg x hx
  obtain ⟨six, es⟩ := bool_arg y hy
  obtain ⟨a, ha, ea⟩ := addr_arg z hz
  obtain ⟨b, hb, eb⟩ := addr_arg u hu
  obtain ⟨t, et⟩ := int_arg v hv
  refine ⟨p, six, a, b, t, hp, ha, hb, ?_⟩
  simp only [argsAV, ep, es, ea, eb, et]
end Go.Am


set_option linter.unusedVariables false
set_option linter.unusedSimpArgs false
set_option pp.deepTerms false
set_option pp.deepTerms.threshold 40
namespace Go.Am
open Go.Proofs

def hasN (p : Pfx) (six : Bool) (a : Addr4) : Bool := decide (checkP p = 0 ∧ p.six = six ∧ rightA six a = true ∧ p.addr.num ≤ a.num ∧ a.num ≤ lastN p)
end Go.Am


set_option linter.unusedVariables false
set_option linter.unusedSimpArgs false
set_option pp.deepTerms false
set_option pp.deepTerms.threshold 40
namespace Go.Am
open Go.Proofs

theorem countP_split {α : Type} (P Q : α → Bool) (l : List α) (h : ∀ x ∈ l, P x = true → Q x = true) (he : l.countP P = l.countP Q) : ∀ x ∈ l, P x = Q x := by
  induction l with
  | nil => intro x hx; cases hx
  | cons y l ih =>
    have hle := List.countP_mono_left (l := l) fun x hx => h x (List.mem_cons_of_mem _ hx)
    have hy := h y List.mem_cons_self
    rw [List.countP_cons, List.countP_cons] at he
    have hyq : P y = Q y := by
      cases hp : P y with
      | true => rw [hy hp]
      | false =>
        cases hq : Q y with
        | false => rfl
        | true => simp [hp, hq] at he; omega
    rw [hyq] at he
    intro x hx
    rcases List.mem_cons.1 hx with rfl | hx
    · exact hyq
    · exact ih (fun x hx => h x (List.mem_cons_of_mem _ hx)) (by omega) x hx
theorem where_eq {six : Bool} {l : List Addr4} (hw : wfL l) (hc : checkC six l = 0) {a b : Addr4} (h : whereN a l = whereN b l) : ∀ c ∈ l, (c.num ≤ a.num ↔ c.num ≤ b.num) := by
  have h1 := count_pos (n := a) hw hc
  have h2 := count_pos (n := b) hw hc
  unfold whereN at h
  have he : l.countP (fun c => decide (c.num ≤ a.num)) = l.countP (fun c => decide (c.num ≤ b.num)) := by omega
  intro c hcm
  rcases Nat.le_total a.num b.num with hab | hab
  · have := countP_split _ _ l (fun x _ hx => by simp at hx ⊢; omega) he c hcm
    simpa using this
  · have := countP_split _ _ l (fun x _ hx => by simp at hx ⊢; omega) he.symm c hcm
    simp at this
    exact this.symm
theorem hasN_eq {p : Pfx} {six : Bool} {a b : Addr4} (hw : p.addr.wf) (h3 : checkP p = 0) (h2 : p.six = six) (haw : a.wf) (hbw : b.wf) (ha : rightA six a = true) (hb : rightA six b = true) (h : ∀ c ∈ ofA p, (c.num ≤ a.num ↔ c.num ≤ b.num)) : hasN p six a = hasN p six b := by
  obtain ⟨l1, l2⟩ := last_lt hw h3
  have hp := pow_le p.six
  have m1 := maxN_all haw ha
  have m2 := maxN_all hbw hb
  unfold ofA at h
  unfold hasN
  rw [Bool.eq_iff_iff, decide_eq_true_eq, decide_eq_true_eq]
  subst h2
  split at h
  · rename_i hm
    have h1 := h p.addr (by simp)
    constructor
    · rintro ⟨q1, q2, q3, q4, q5⟩
      exact ⟨q1, q2, hb, h1.1 q4, by omega⟩
    · rintro ⟨q1, q2, q3, q4, q5⟩
      exact ⟨q1, q2, ha, h1.2 q4, by omega⟩
  · rename_i hm
    have h1 := h p.addr (by simp)
    have h4 := h (ofN (lastN p + 1)) (by simp)
    rw [num_ofN (by unfold maxN at hm; omega)] at h4
    constructor
    · rintro ⟨q1, q2, q3, q4, q5⟩
      exact ⟨q1, q2, hb, h1.1 q4, by omega⟩
    · rintro ⟨q1, q2, q3, q4, q5⟩
      exact ⟨q1, q2, ha, h1.2 q4, by omega⟩
end Go.Am


set_option linter.unusedVariables false
set_option linter.unusedSimpArgs false
set_option pp.deepTerms false
set_option pp.deepTerms.threshold 40
namespace Go.Am
open Go.Proofs

theorem bits_div (W x y : Nat) (hx : x < 2 ^ W) (hy : y < 2 ^ W) : ∀ n, n ≤ W → ((∀ i, i < n → x / 2 ^ (W - 1 - i) % 2 = y / 2 ^ (W - 1 - i) % 2) ↔ x / 2 ^ (W - n) = y / 2 ^ (W - n))
  | 0, _ => by
    rw [Nat.sub_zero, Nat.div_eq_of_lt hx, Nat.div_eq_of_lt hy]
    simp
  | n + 1, h => by
    have ih := bits_div W x y hx hy n (by omega)
    have e : 2 ^ (W - n) = 2 ^ (W - (n + 1)) * 2 := by rw [← Nat.pow_succ]; congr 1; omega
    rw [e, ← Nat.div_div_eq_div_mul, ← Nat.div_div_eq_div_mul] at ih
    have e2 : W - 1 - n = W - (n + 1) := by omega
    constructor
    · intro hh
      have h1 := ih.1 fun i hi => hh i (by omega)
      have h2 := hh n (by omega)
      rw [e2] at h2
      omega
    · intro hh i hi
      by_cases hin : i < n
      · exact ih.2 (by rw [hh]) i hin
      · have : i = n := by omega
        subst this
        rw [e2, hh]
theorem sameBits_div {six : Bool} {a b : Addr4} {n : Nat} (ha : a.num < 2 ^ wideN six) (hb : b.num < 2 ^ wideN six) (hn : n ≤ wideN six) : sameBits six a b n = true ↔ a.num / 2 ^ (wideN six - n) = b.num / 2 ^ (wideN six - n) := by
  rw [← bits_div _ _ _ ha hb n hn]
  unfold sameBits bitAt
  rw [List.all_eq_true]
  constructor
  · intro h i hi
    have := h i (List.mem_range.2 hi)
    rw [beq_iff_eq] at this
    exact Int.ofNat.inj this
  · intro h i hi
    rw [beq_iff_eq, h i (List.mem_range.1 hi)]
theorem hasP_hasN {p : Pfx} {six : Bool} {a : Addr4} (hw : p.addr.wf) (ha : a.wf) : hasP p six a = hasN p six a := by
  unfold hasP hasN
  by_cases h1 : checkP p = 0
  · by_cases h2 : p.six = six
    · cases h3 : rightA six a with
      | false => simp
      | true =>
        subst h2
        obtain ⟨l0, l1, l2⟩ := checkP_len h1
        have hh := checkP_host hw h1
        have hlt := Addr4.num_lt hw l2
        have hat := Addr4.num_lt ha h3
        have hs := sameBits_div (n := p.len.toNat) hlt hat (by omega)
        rw [Bool.eq_iff_iff]
        simp only [h1, beq_self_eq_true, Bool.true_and, decide_eq_true_eq, true_and]
        rw [hs]
        unfold lastN
        generalize hn : wideN p.six - p.len.toNat = n at *
        have hp := Nat.two_pow_pos n
        obtain ⟨q, hq⟩ := Nat.dvd_of_mod_eq_zero hh
        rw [hq, Nat.mul_div_cancel_left _ hp]
        constructor
        · intro e
          have h5 := Nat.div_add_mod a.num (2 ^ n)
          have h6 := Nat.mod_lt a.num hp
          rw [← e] at h5
          omega
        · rintro ⟨h5, h6⟩
          refine (Nat.div_eq_of_lt_le ?_ ?_).symm
          · rw [Nat.mul_comm]; exact h5
          · rw [Nat.add_mul, Nat.mul_comm q]; omega
    · simp [h1, h2]
  · simp [h1]
theorem bestF_eq {six : Bool} {a b : Addr4} : ∀ (l : List Route) (x : Option Route), (∀ r ∈ l, hasP r.pfx six a = hasP r.pfx six b) → bestF six a l x = bestF six b l x
  | [], _, _ => rfl
  | r :: l, x, h => by
    rw [bestF, bestF, h r List.mem_cons_self]
    exact bestF_eq l _ fun y hy => h y (List.mem_cons_of_mem _ hy)
theorem putRt_all {S : Route → Prop} {l : List Route} {x : Route} (hl : ∀ r ∈ l, S r) (hx : S x) : ∀ r ∈ (putRt l x).1, S r := by
  unfold putRt
  intro r hr
  split at hr
  · cases hr
  · split at hr
    · exact hl r hr
    · simp only [List.mem_append, List.mem_singleton, ltR, gtR, woR, List.mem_filter] at hr
      rcases hr with (hr | rfl) | hr
      · exact hl r hr.1.1
      · exact hx
      · exact hl r hr.1.1
theorem delRt_all {S : Route → Prop} {l : List Route} {p : Pfx} (hl : ∀ r ∈ l, S r) : ∀ r ∈ (delRt l p).1, S r := by
  unfold delRt
  intro r hr
  split at hr
  · cases hr
  · simp only [woR, List.mem_filter] at hr
    exact hl r hr.1
theorem applyR_all {S : Route → Prop} {r : Router} {e : Ev} (hw : ∀ x ∈ r.routes, S x) (he : e.kind = 3 → S ⟨e.pfx, e.act⟩) : ∀ x ∈ (applyR r e).1.routes, S x := by
  unfold applyR
  repeat' split
  all_goals first
    | exact hw
    | (intro x hx; cases hx; done)
    | (rename_i h3 _; exact putRt_all hw (he h3))
    | exact delRt_all hw
theorem happensF_all {S : Route → Prop} {n : Net} {e : Ev} {hz : Int} (hw : ∀ r ∈ n.routers, ∀ x ∈ r.routes, S x) (he : e.kind = 3 → S ⟨e.pfx, e.act⟩) : ∀ r ∈ (happensF n e hz).1.routers, ∀ x ∈ r.routes, S x := by
  unfold happensF
  repeat' split
  all_goals first
    | exact hw
    | skip
  intro r hr
  simp only [netAfter, List.mem_map] at hr
  obtain ⟨s, _, rfl⟩ := hr
  unfold afterN
  split
  · refine applyR_all ?_ he
    unfold mineN
    split
    · rename_i r h; exact hw r (List.mem_of_find?_eq_some h)
    · intro x hx; cases hx
  · cases h : routerF n.routers s.router with
    | none => intro x hx; cases hx
    | some r => exact hw r (List.mem_of_find?_eq_some h)
theorem allGo_all {S : Route → Prop} {hz : Int} : ∀ (l : List Ev) (n : Net) (i : Int), (∀ r ∈ n.routers, ∀ x ∈ r.routes, S x) → (∀ e ∈ l, e.kind = 3 → S ⟨e.pfx, e.act⟩) → ∀ r ∈ (allGo hz l n i).1.routers, ∀ x ∈ r.routes, S x
  | [], n, i, h, _ => h
  | e :: l, n, i, h, hl => by
    rw [allGo]
    split
    · exact allGo_all l _ _ (happensF_all h (hl e List.mem_cons_self)) fun x hx => hl x (List.mem_cons_of_mem _ hx)
    · exact h
theorem hopF_eq {r : Router} {six : Bool} {a b : Addr4} (h : ∀ x ∈ r.routes, hasP x.pfx six a = hasP x.pfx six b) : hopF r six a = hopF r six b := by
  unfold hopF
  rw [bestF_eq r.routes none h]
theorem doesF_eq {n : Net} {x : Int} {six : Bool} {a b : Addr4} (h : ∀ r ∈ n.routers, ∀ x ∈ r.routes, hasP x.pfx six a = hasP x.pfx six b) : doesF n x six a = doesF n x six b := by
  unfold doesF
  cases e : routerF n.routers x with
  | none => rfl
  | some r => exact hopF_eq (h r (List.mem_of_find?_eq_some e))
/-- What a past's routes have, is between its cuts. -/
def cutBy (p : Past) (six : Bool) (x : Route) : Prop := x.pfx.addr.wf ∧ (x.pfx.six = six → checkP x.pfx = 0 → ∀ c ∈ ofA x.pfx, c ∈ cutsF p six)
theorem then_cut {p : Past} (hw : p.wf) (hok : okP p = true) (six : Bool) (t : Int) : ∀ r ∈ (thenF p t).routers, ∀ x ∈ r.routes, cutBy p six x := by
  have hs := (sortA_all (rawC_wf hw hok six)).2.2
  rw [thenF_go hok]
  refine allGo_all _ _ _ ?_ ?_
  · intro r hr x hx
    refine ⟨hw.1 r hr x hx, fun h6 _ c hc => (hs c).2 ?_⟩
    unfold rawC roC rtC
    refine List.mem_cons_of_mem _ (List.mem_append_left _ ?_)
    simp only [List.mem_flatMap]
    exact ⟨r, hr, x, hx, by rw [if_pos h6]; exact hc⟩
  · intro e he hk
    have hm : e ∈ p.evs := (List.mem_filter.1 he).1
    refine ⟨(hw.2 e hm).2, fun h6 _ c hc => (hs c).2 ?_⟩
    unfold rawC evC
    refine List.mem_cons_of_mem _ (List.mem_append_right _ ?_)
    simp only [List.mem_flatMap]
    exact ⟨e, hm, by rw [if_pos ⟨hk, h6⟩]; exact hc⟩
theorem does_same {p : Past} (hw : p.wf) (hok : okP p = true) {six : Bool} (t : Int) {a b : Addr4} (ha : a.wf) (hb : b.wf) (ra : rightA six a = true) (rb : rightA six b = true) (h : ∀ c ∈ cutsF p six, (c.num ≤ a.num ↔ c.num ≤ b.num)) (x : Int) : doesF (thenF p t) x six a = doesF (thenF p t) x six b := by
  refine doesF_eq fun r hr x hx => ?_
  obtain ⟨k1, k2⟩ := then_cut hw hok six t r hr x hx
  rw [hasP_hasN k1 ha, hasP_hasN k1 hb]
  by_cases h1 : checkP x.pfx = 0
  · by_cases h2 : x.pfx.six = six
    · exact hasN_eq k1 h1 h2 ha hb ra rb fun c hc => h c (k2 h2 h1 c hc)
    · unfold hasN; simp [h2]
  · unfold hasN; simp [h1]
end Go.Am


set_option linter.unusedVariables false
set_option linter.unusedSimpArgs false
set_option pp.deepTerms false
set_option pp.deepTerms.threshold 40
namespace Go.Am
open Go.Proofs

end Go.Am


set_option linter.unusedVariables false
set_option linter.unusedSimpArgs false
set_option pp.deepTerms false
set_option pp.deepTerms.threshold 40
namespace Go.Am
open Go.Proofs

/-- Between two times at which something happened no event is. -/
theorem between_go {T : List Int} {l : List Ev} {a b : Int} (hs : T.Pairwise (· < ·)) (hT : ∀ r, r ∈ T → a < r ∧ r ≤ b + 1) (hin' : ∀ e ∈ l, a < e.time → e.time ≤ b → e.time ∈ T) (k : Nat) (hk : k < T.length) (x : Int) (hx : x = if k = 0 then a else T[k - 1]'(by omega)) :
    a ≤ x ∧ x < T[k] ∧ T[k] ≤ b + 1 ∧ upto x l = upto (T[k] - 1) l := by
  have hp := List.pairwise_iff_getElem.1 hs
  have hk1 := hT T[k] (List.getElem_mem _)
  have hlt : a ≤ x ∧ x < T[k] := by
    by_cases h0 : k = 0
    · rw [if_pos h0] at hx
      omega
    · rw [if_neg h0] at hx
      have h1 := hp (k - 1) k (by omega) hk (by omega)
      have h2 := hT T[k - 1] (List.getElem_mem _)
      omega
  refine ⟨hlt.1, hlt.2, hk1.2, ?_⟩
  unfold upto
  refine List.filter_congr fun e he => ?_
  have : e.time ≤ x ↔ e.time ≤ T[k] - 1 := by
    refine ⟨fun h => by omega, fun h => ?_⟩
    apply Classical.byContradiction
    intro hn
    obtain ⟨j, hj, hje⟩ := List.getElem_of_mem (hin' e he (by omega) (by omega))
    by_cases hjk : k ≤ j
    · rcases Nat.lt_or_ge k j with h1 | h1
      · have := hp k j hk hj h1; omega
      · have : k = j := by omega
        subst this
        omega
    · by_cases h0 : k = 0
      · omega
      rw [if_neg h0] at hx
      rcases Nat.lt_or_ge j (k - 1) with h1 | h1
      · have := hp j (k - 1) hj (by omega) h1; omega
      · have : j = k - 1 := by omega
        subst this
        omega
  simp only [this]
theorem between {l : List Ev} {a b : Int} (hab : a ≤ b) (k : Nat) (hk : k < (timesF l a b ++ [b + 1]).length) (x : Int) (hx : x = if k = 0 then a else (timesF l a b ++ [b + 1])[k - 1]'(by omega)) :
    a ≤ x ∧ x < (timesF l a b ++ [b + 1])[k] ∧ (timesF l a b ++ [b + 1])[k] ≤ b + 1 ∧ upto x l = upto ((timesF l a b ++ [b + 1])[k] - 1) l := by
  have hm : ∀ r, r ∈ timesF l a b → a < r ∧ r ≤ b := by
    intro r hr
    rw [timesF_mem] at hr
    unfold happT at hr
    obtain ⟨e, he, rfl⟩ := List.mem_map.1 hr
    have := (List.mem_filter.1 he).2
    simpa using this
  refine between_go ?_ ?_ ?_ k hk x hx
  · rw [List.pairwise_append]
    refine ⟨timesF_sorted l a b, by simp, fun r hr y hy => ?_⟩
    rw [List.mem_singleton] at hy
    subst hy
    have := (hm r hr).2
    omega
  · intro r hr
    rcases List.mem_append.1 hr with hr | hr
    · have := hm r hr; omega
    · rw [List.mem_singleton] at hr; omega
  · intro e he h1 h2
    refine List.mem_append.2 (.inl ?_)
    rw [timesF_mem]
    exact List.mem_map.2 ⟨e, List.mem_filter.2 ⟨he, by simp [h1, h2]⟩, rfl⟩
end Go.Am


set_option linter.unusedVariables false
set_option linter.unusedSimpArgs false
set_option pp.deepTerms false
set_option pp.deepTerms.threshold 40
namespace Go.Am
open Go.Proofs

end Go.Am


set_option linter.unusedVariables false
set_option linter.unusedSimpArgs false
set_option pp.deepTerms false
set_option pp.deepTerms.threshold 40
namespace Go.Am
open Go.Proofs

theorem allGo_wf {hz : Int} : ∀ (l : List Ev) (n : Net) (i : Int), n.wf → (∀ e ∈ l, e.pfx.addr.wf) → (allGo hz l n i).1.wf
  | [], n, i, h, _ => h
  | e :: l, n, i, h, hl => by
    rw [allGo]
    split
    · exact allGo_wf l _ _ (happensF_wf h (hl e List.mem_cons_self)) fun x hx => hl x (List.mem_cons_of_mem _ hx)
    · exact h
theorem net0_wf : net0.wf := by intro r hr; cases hr
theorem allN_wf {n : Net} {l : List Ev} {hz : Int} (h : n.wf) (hl : ∀ e ∈ l, e.pfx.addr.wf) : (allN n l hz).1.wf := by
  unfold allN
  split
  · exact net0_wf
  · exact allGo_wf l n 0 h hl
end Go.Am


set_option linter.unusedVariables false
set_option linter.unusedSimpArgs false
set_option pp.deepTerms false
set_option pp.deepTerms.threshold 40
namespace Go.Am
open Go.Proofs

theorem hopO_spec (n : Net) (x : Int) (six : Bool) (a : Addr4) (hw : n.wf) (ha : a.wf) (h1 : netOk n = true) (h2 : rightA six a = true) :
    FSpec Tryz.prog 48 [n.av, .int .i64 x, .bool six, a.av] [] (.tup [(doesF n x six a).av, .int .i64 0]) [] := by
  have hc := checkN_spec n
  rw [h1] at hc
  have g2 := rightA_spec six a
  rw [h2] at g2
  have hd := doesN_spec n x six a h1 hw ha h2
  generalize doesF n x six a = D at *
  refine FSpec.of_z (q := []) Tryz.func48 (by kernel_rfl) rfl Tryz.ntmps48 Tryz.results48 hP (by kernel_rfl) (by simp) (by first | rfl | simp) ?_
  simp
  first | refine CallK.same (hc) rfl rfl ?_ | refine CallQ.same (hc) rfl rfl ?_ | refine CallQG.same _ (hc) rfl ?_ | refine CallG.same _ (hc) rfl ?_ | refine CallK.pv (hc) rfl rfl ?_
  simp
  first | refine CallG.off (.bool true) ?_ | (refine CallG.on ?_; first | refine CallK.same (g2) rfl rfl ?_ | refine CallQ.same (g2) rfl rfl ?_ | refine CallQG.same _ (g2) rfl ?_ | refine CallG.same _ (g2) rfl ?_ | refine CallK.pv (g2) rfl rfl ?_)
  simp
  first | refine CallK.same (hd) rfl rfl ?_ | refine CallQ.same (hd) rfl rfl ?_ | refine CallQG.same _ (hd) rfl ?_ | refine CallG.same _ (hd) rfl ?_ | refine CallK.pv (hd) rfl rfl ?_
  simp
  refine EndZ.ret [] (.tup [D.av, .int .i64 0]) (by simp) ?_
  simp
set_option maxRecDepth 8000 in
set_option maxHeartbeats 4000000 in
theorem same_off (p : Past) (six : Bool) (a b : Addr4) (t : Int) (C : List Addr4) (N : Net) (i k : Nat) (w1 w2 wa wb : Int)
    (g1 : FSpec Tryz.prog 34 [p.av, .bool six] [] (.tup [.im (.sl 2 (C.map Addr4.iv)), .int .i64 w1]) [])
    (g2 : FSpec Tryz.prog 27 [p.av, .int .i64 t] [] (.tup [N.av, .int .i64 w2]) [])
    (g3 : FSpec Tryz.prog 42 [.bool six, .im (.sl 2 (C.map Addr4.iv)), a.av] [] (.tup [.int .i64 i, .int .i64 wa]) [])
    (g4 : FSpec Tryz.prog 42 [.bool six, .im (.sl 2 (C.map Addr4.iv)), b.av] [] (.tup [.int .i64 k, .int .i64 wb]) [])
    (h : ¬ (w1 = 0 ∧ w2 = 0 ∧ wa = 0 ∧ wb = 0 ∧ i = k)) :
    FSpec Tryz.prog 13 [p.av, .bool six, a.av, b.av, .int .i64 t] [] (.bool true) [] := by
  refine FSpec.of_flat (q := [(14, .m [.p [], .p [], .p [], .p [], .p [], .p [], .p [], .p [], .e [100, 102, 103, 107], .p [], .p [], .p [2], .a 0 1, .e [25, 109]])]) Tryz.func13 (by kernel_rfl) rfl Tryz.ntmps13 Tryz.results13 hP (by kernel_rfl) (by simp) (by first | rfl | simp) ?_
  simp -implicitDefEqProofs
  first | refine CallK.same (lives22_spec) rfl rfl ?_ | refine CallQ.same (lives22_spec) rfl rfl ?_ | refine CallQG.same _ (lives22_spec) rfl ?_ | refine CallG.same _ (lives22_spec) rfl ?_ | refine CallK.pv (lives22_spec) rfl rfl ?_
  simp -implicitDefEqProofs
  first | refine CallK.same (g1) rfl rfl ?_ | refine CallQ.same (g1) rfl rfl ?_ | refine CallQG.same _ (g1) rfl ?_ | refine CallG.same _ (g1) rfl ?_ | refine CallK.pv (g1) rfl rfl ?_
  simp -implicitDefEqProofs
  first | refine CallK.same (g2) rfl rfl ?_ | refine CallQ.same (g2) rfl rfl ?_ | refine CallQG.same _ (g2) rfl ?_ | refine CallG.same _ (g2) rfl ?_ | refine CallK.pv (g2) rfl rfl ?_
  simp -implicitDefEqProofs
  first | refine CallK.same (g3) rfl rfl ?_ | refine CallQ.same (g3) rfl rfl ?_ | refine CallQG.same _ (g3) rfl ?_ | refine CallG.same _ (g3) rfl ?_ | refine CallK.pv (g3) rfl rfl ?_
  simp -implicitDefEqProofs
  first | refine CallK.same (g4) rfl rfl ?_ | refine CallQ.same (g4) rfl rfl ?_ | refine CallQG.same _ (g4) rfl ?_ | refine CallG.same _ (g4) rfl ?_ | refine CallK.pv (g4) rfl rfl ?_
  simp -implicitDefEqProofs
  intro h1 h2 h3 h4 h5
  exact absurd ⟨h1, h2, h3, h4, by omega⟩ h
set_option maxRecDepth 8000 in
set_option maxHeartbeats 4000000 in
theorem same_on (p : Past) (six : Bool) (a b : Addr4) (t : Int) (C : List Addr4) (N : Net) (i : Nat) (H : Int → Hop) (hi : i < C.length) (hN : N.routers.length ≤ 64)
    (g1 : FSpec Tryz.prog 34 [p.av, .bool six] [] (.tup [.im (.sl 2 (C.map Addr4.iv)), .int .i64 0]) [])
    (g2 : FSpec Tryz.prog 27 [p.av, .int .i64 t] [] (.tup [N.av, .int .i64 0]) [])
    (g3 : FSpec Tryz.prog 42 [.bool six, .im (.sl 2 (C.map Addr4.iv)), a.av] [] (.tup [.int .i64 i, .int .i64 0]) [])
    (g4 : FSpec Tryz.prog 42 [.bool six, .im (.sl 2 (C.map Addr4.iv)), b.av] [] (.tup [.int .i64 i, .int .i64 0]) [])
    (g5 : ∀ x, FSpec Tryz.prog 48 [N.av, .int .i64 x, .bool six, a.av] [] (.tup [(H x).av, .int .i64 0]) [])
    (g6 : ∀ x, FSpec Tryz.prog 48 [N.av, .int .i64 x, .bool six, b.av] [] (.tup [(H x).av, .int .i64 0]) [])
    (g7 : ∀ x, FSpec Tryz.prog 48 [N.av, .int .i64 x, .bool six, C[i].av] [] (.tup [(H x).av, .int .i64 0]) []) :
    FSpec Tryz.prog 13 [p.av, .bool six, a.av, b.av, .int .i64 t] [] (.bool true) [] := by
  refine FSpec.of_flat (q := [(14, .m [.p [], .p [], .p [], .p [], .p [], .p [], .p [], .p [], .e [100, 102, 103, 107], .p [], .p [], .p [2], .a 0 1, .e [25, 109]])]) Tryz.func13 (by kernel_rfl) rfl Tryz.ntmps13 Tryz.results13 hP (by kernel_rfl) (by simp) (by first | rfl | simp) ?_
  simp -implicitDefEqProofs
  first | refine CallK.same (lives22_spec) rfl rfl ?_ | refine CallQ.same (lives22_spec) rfl rfl ?_ | refine CallQG.same _ (lives22_spec) rfl ?_ | refine CallG.same _ (lives22_spec) rfl ?_ | refine CallK.pv (lives22_spec) rfl rfl ?_
  simp -implicitDefEqProofs
  first | refine CallK.same (g1) rfl rfl ?_ | refine CallQ.same (g1) rfl rfl ?_ | refine CallQG.same _ (g1) rfl ?_ | refine CallG.same _ (g1) rfl ?_ | refine CallK.pv (g1) rfl rfl ?_
  simp -implicitDefEqProofs
  first | refine CallK.same (g2) rfl rfl ?_ | refine CallQ.same (g2) rfl rfl ?_ | refine CallQG.same _ (g2) rfl ?_ | refine CallG.same _ (g2) rfl ?_ | refine CallK.pv (g2) rfl rfl ?_
  simp -implicitDefEqProofs
  first | refine CallK.same (g3) rfl rfl ?_ | refine CallQ.same (g3) rfl rfl ?_ | refine CallQG.same _ (g3) rfl ?_ | refine CallG.same _ (g3) rfl ?_ | refine CallK.pv (g3) rfl rfl ?_
  simp -implicitDefEqProofs
  first | refine CallK.same (g4) rfl rfl ?_ | refine CallQ.same (g4) rfl rfl ?_ | refine CallQG.same _ (g4) rfl ?_ | refine CallG.same _ (g4) rfl ?_ | refine CallK.pv (g4) rfl rfl ?_
  simp -implicitDefEqProofs
  refine LoopK.os (fun k : Nat => [(1, .bool six), (7, .ptr 0 0), (8, .ptr 1 0), (13, .ptr 2 0), (11, .im (.sl 2 (C.map Addr4.iv))), (15, .int .i64 i), (75, .im (.sl 4 (N.routers.map Router.iv))), (76, .int .i64 N.routers.length), (77, .int .i64 k)])
    (fun k => [.box 32 [.int .u64 a.hi, .int .u64 a.lo], .box 32 [.int .u64 b.hi, .int .u64 b.lo], .box 25 [.im (.sl 4 (N.seats.map Seat.iv)), .im (.sl 4 (N.routers.map Router.iv))]])
    (fun k => k ≤ N.routers.length) (fun k => N.routers.length - k) 0 [1, 2, 3] (Nat.zero_le _) (by simp) ?_
  intro k hk
  by_cases hlt : k < N.routers.length
  · have e1 : IntKind.i64.wrap (k + 1) = (k + 1 : Nat) := wrap64 (by omega) (by omega)
    obtain ⟨r, hr⟩ : ∃ r, N.routers[k] = r := ⟨_, rfl⟩
    have g5 := g5 r.id
    have g6 := g6 r.id
    have g7 := g7 r.id
    obtain ⟨y, hy⟩ : ∃ y, C[i] = y := ⟨_, rfl⟩
    have hy2 : C[i]? = some y := by rw [List.getElem?_eq_getElem hi, hy]
    rw [hy] at g7
    generalize H r.id = X at *
    simp -implicitDefEqProofs [hlt, hr, e1]
    first | refine CallK.same (g5) rfl rfl ?_ | refine CallQ.same (g5) rfl rfl ?_ | refine CallQG.same _ (g5) rfl ?_ | refine CallG.same _ (g5) rfl ?_ | refine CallK.pv (g5) rfl rfl ?_
    simp -implicitDefEqProofs
    first | refine CallK.same (g6) rfl rfl ?_ | refine CallQ.same (g6) rfl rfl ?_ | refine CallQG.same _ (g6) rfl ?_ | refine CallG.same _ (g6) rfl ?_ | refine CallK.pv (g6) rfl rfl ?_
    simp -implicitDefEqProofs [hi, hy, hy2]
    first | refine CallK.same (g7) rfl rfl ?_ | refine CallQ.same (g7) rfl rfl ?_ | refine CallQG.same _ (g7) rfl ?_ | refine CallG.same _ (g7) rfl ?_ | refine CallK.pv (g7) rfl rfl ?_
    simp -implicitDefEqProofs
    refine Again.os (k + 1) [0, 1, 2] hlt (by omega) ?_
    simp -implicitDefEqProofs [e1]
  · have hkk : k = N.routers.length := by omega
    subst hkk
    simp -implicitDefEqProofs
theorem sa_count {v : Nat} : ∀ {l : List Addr4}, SA l → ∀ (j : Nat) (h : j < l.length), (l[j].num ≤ v ↔ j < l.countP (fun c => decide (c.num ≤ v)))
  | [], _, j, h => by cases h
  | y :: t, hs, j, h => by
    obtain ⟨h1, h2⟩ := List.pairwise_cons.1 hs
    rw [List.countP_cons]
    by_cases hy : y.num ≤ v
    · rw [if_pos (by simpa using hy)]
      cases j with
      | zero => simp [hy]
      | succ j =>
        have := sa_count (v := v) h2 j (by simpa using h)
        rw [List.getElem_cons_succ, this]
        omega
    · have h0 : t.countP (fun c => decide (c.num ≤ v)) = 0 := by
        rw [List.countP_eq_zero]
        intro x hx
        have := h1 x hx
        simp
        omega
      rw [if_neg (by simpa using hy), h0]
      have hj : ¬ (y :: t)[j].num ≤ v := by
        rcases List.mem_cons.1 (List.getElem_mem h) with e | e
        · rw [e]; exact hy
        · have := h1 _ e; omega
      constructor
      · intro hh; exact absurd hh hj
      · intro hh; omega
theorem sa_cut {l : List Addr4} (hs : SA l) {a : Addr4} {i : Nat} (h : i < l.length) (hc : l.countP (fun c => decide (c.num ≤ a.num)) = i + 1) : ∀ c ∈ l, (c.num ≤ a.num ↔ c.num ≤ l[i].num) := by
  intro c hcm
  obtain ⟨j, hj, rfl⟩ := List.getElem_of_mem hcm
  rw [sa_count (v := a.num) hs j hj, hc]
  constructor
  · intro hji
    by_cases e : j = i
    · subst e; exact Nat.le_refl _
    · have := List.pairwise_iff_getElem.1 hs j i hj h (by omega); omega
  · intro hji
    by_cases e : j ≤ i
    · omega
    · have := List.pairwise_iff_getElem.1 hs i j h hj (by omega); omega
theorem whereF_zero {six : Bool} {l : List Addr4} {a : Addr4} (h : (whereF six l a).2 = 0) : checkC six l = 0 ∧ rightA six a = true ∧ (whereF six l a).1 = whereN a l := by
  unfold whereF at h ⊢
  split at h
  · cases h
  · rename_i hh
    rw [if_neg hh]
    refine ⟨Classical.byContradiction fun k => hh (.inl k), ?_, rfl⟩
    cases hr : rightA six a with
    | true => rfl
    | false => exact absurd (.inr hr) hh
theorem atomsAlike_spec (p : Past) (six : Bool) (a b : Addr4) (t : Int) (hw : p.wf) (ha : a.wf) (hb : b.wf) : FSpec Tryz.prog 13 [p.av, .bool six, a.av, b.av, .int .i64 t] [] (.bool true) [] := by
  have g1 := cuts_spec p six hw
  have g2 := atO_spec p t fun e he => (hw.2 e he).1
  have hCw : wfL (if okP p then cutsF p six else []) := by
    cases h : okP p with
    | true => exact (sortA_all (rawC_wf hw h six)).1
    | false => intro x hx; cases hx
  have g3 := where_spec six _ a hCw ha
  have g4 := where_spec six _ b hCw hb
  by_cases hall : (if okP p then (0 : Int) else 2) = 0 ∧ (if okP p then askT p t else 2) = 0 ∧ (whereF six (if okP p then cutsF p six else []) a).2 = 0 ∧ (whereF six (if okP p then cutsF p six else []) b).2 = 0 ∧ (whereF six (if okP p then cutsF p six else []) a).1 = (whereF six (if okP p then cutsF p six else []) b).1
  · obtain ⟨k1, k2, k3, k4, k5⟩ := hall
    have hok : okP p = true := by
      cases h : okP p with
      | true => rfl
      | false => rw [h] at k1; cases k1
    simp only [hok, if_true, true_and] at g1 g2 g3 g4 k2 k3 k4 k5 hCw
    rw [if_pos k2, k2] at g2
    rw [k3] at g3
    rw [k4, ← k5] at g4
    obtain ⟨q1, q2, q3⟩ := whereF_zero k3
    obtain ⟨_, q4, q5⟩ := whereF_zero k4
    rw [q3] at g3 g4 k5
    rw [q5] at k5
    obtain ⟨r1, r2, r3⟩ := checkC_ok hCw q1
    have hpos := count_pos (n := a) hCw q1
    have hcl : (cutsF p six).countP (fun c => decide (c.num ≤ a.num)) ≤ (cutsF p six).length := List.countP_le_length
    have hi : whereN a (cutsF p six) < (cutsF p six).length := by unfold whereN; omega
    have hc := where_eq hCw q1 k5
    have hy := sa_cut r2 (a := a) hi (by unfold whereN; omega)
    have hyw := hCw _ (List.getElem_mem hi)
    have hyr := r1 _ (List.getElem_mem hi)
    have hnok := (thenF_all hok t).2.2
    have hnw : (thenF p t).wf := allN_wf hw.1 fun e he => (hw.2 e (List.mem_filter.1 he).1).2
    have g5 := fun x => hopO_spec (thenF p t) x six a hnw ha hnok q2
    have g6 := fun x => hopO_spec (thenF p t) x six b hnw hb hnok q4
    have g7 := fun x => hopO_spec (thenF p t) x six _ hnw hyw hnok hyr
    have e6 := does_same hw hok (six := six) t ha hb q2 q4 hc
    have e7 := does_same hw hok (six := six) t ha hyw q2 hyr hy
    refine same_on p six a b t _ (thenF p t) _ (fun x => doesF (thenF p t) x six a) hi (netOk_len hnok) g1 g2 g3 g4 g5 ?_ ?_
    · intro x; have := g6 x; rw [← e6 x] at this; exact this
    · intro x; have := g7 x; rw [← e7 x] at this; exact this
  · exact same_off p six a b t _ _ _ _ _ _ _ _ g1 g2 g3 g4 hall
end Go.Am

