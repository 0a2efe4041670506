/-
  For every net, every address and either family: the law JudgeRound returns true, and its arguments read afterwards as before; what the program's own initialiser lays into walk.kinds is tied to its text. No condition.
-/
import Derived.Test.YtnoggcmfnmmjcaaGreatDoorCards
import Derived.Test.YtnoggcmfnmmjcaaGreatDoorTie
import Derived.ProofKit
import Derived.LaidMore
import Derived.OpenShut
import Derived.Stop.Joined
import Derived.SevenTiedAt
import Derived.Test.YtnoggcmfnmmjcaaGreatDoorU1
set_option linter.unusedVariables false
namespace Go.Proofs.YtnoggcmfnmmjcaaGreatDoor
open Go.Am Go.ChangeShapes Go.WideShapes Go.ChangeAt Go.RowKit

theorem own : ownKnob Tryz.prog.godebug = none := by kernel_rfl
theorem laidOut : laidOutB Tryz.prog = true := by kernel_rfl
theorem shNet : [25, 4, 28].mapM (shT Tryz.prog 8) = some [netSh, [.bool], addrSh] := by kernel_rfl
theorem gKinds : Tryz.prog.globalNamed "spoor/walk.kinds" = some 0 := by kernel_rfl
theorem tKinds : (Tryz.prog.globals[0]?).map (·.type) = some 100 := by kernel_rfl
abbrev laidK : List (String × DataW Unit) := [("spoor/walk.kinds", Rows.laid_spoor_walk_kinds)]
theorem door_met (os : Os) (args : Array Value) : laidMetH Tryz.prog laidK ((World.doorLaid Tryz.prog 400 os).forCall (fun _ _ => 0) ⟨#[], args, []⟩).memory :=
  laidMetH_of_parts3 (fuel := 8) (laidMet_of_run' 8 (by kernel_rfl) (by kernel_rfl)) (by kernel_rfl) (by kernel_rfl)
set_option maxRecDepth 100000 in
theorem of_laid {W : World} (h : laidMetH Tryz.prog laidK W) : W.cell? ⟨0, 0, none⟩ = some (.int .u8 3) ∧ W.cell? ⟨0, 1, none⟩ = some (.int .u8 4) ∧ W.cell? ⟨0, 2, none⟩ = some (.int .u8 1) ∧ W.cell? ⟨0, 3, none⟩ = some (.int .u8 2) := by
  rw [MakeChecks.laidMetH_plain _ _ _ (by kernel_rfl)] at h
  obtain ⟨ps, ⟨g0, t0, cs0, f0, p0, q0, hg0, ht0, hv0, hd0, _, _⟩, _, _⟩ := h
  obtain rfl := Option.some.inj (gKinds.symm.trans hg0)
  obtain rfl := Option.some.inj (tKinds.symm.trans ht0)
  obtain ⟨xs, m1, rfl, hx1, hlen, hn4, hel⟩ := DataW.trod_array Tryz.underlying100 hd0
  have c1 : Tryz.prog.cellsOf 34 = 1 := by kernel_rfl
  have c4 : Tryz.prog.cellsOf 100 = 4 := by kernel_rfl
  rw [c4] at hlen
  have h0 := hel 0 (by decide)
  have h1 := hel 1 (by decide)
  have h2 := hel 2 (by decide)
  have h3 := hel 3 (by decide)
  rw [c1] at h0 h1 h2 h3
  simp only [Prod.mk.injEq] at hx1
  have hcell := World.var?_cell hg0 hv0
  obtain ⟨l⟩ := cs0
  match xs, hn4, l, hlen with
  | [x0, x1, x2, x3], _, [u0, u1, u2, u3], _ =>
    have hx := hx1.1
    simp only [Rows.laid_spoor_walk_kinds, DataW.agg.injEq, List.map_cons, List.map_nil, List.cons.injEq, and_true] at hx
    have one : ∀ {x : DataW Unit × List MemPlace} {u : Value} {k : Int}, DataW.trod (fun _ => ()) Tryz.prog W 0 (fun _ => true) false m1 34 [u] = some x → DataW.lit (.int .u8 k) = x.1 → u = .int .u8 k := by
      intro x u k h e
      obtain ⟨k', e1, e2, _⟩ := DataW.trod_int Tryz.underlying34 h
      rw [e2] at e
      simp at e e1
      rw [e1, e]
    have k0 := one (by simpa using h0) hx.1
    have k1 := one (by simpa using h1) hx.2.1
    have k2 := one (by simpa using h2) hx.2.2.1
    have k3 := one (by simpa using h3) hx.2.2.2
    subst k0 k1 k2 k3
    exact ⟨by simpa using hcell 0, by simpa using hcell 1, by simpa using hcell 2, by simpa using hcell 3⟩
theorem kinds_gl {W : World} (h : laidMetH Tryz.prog laidK W) : ∀ (g : Nat) (cs : List IV), Go.Am.look [(0, kindsIV)] g = some cs → ∃ u : Nat → Value, ∀ (j : Nat) (y : IV), cs[j]? = some y → (u j).oneCell' = true ∧ W.cell? ⟨g, j, none⟩ = some (u j) ∧ IRep (fun _ _ => False) y (u j) := by
  obtain ⟨h0, h1, h2, h3⟩ := of_laid h
  intro g cs hg
  simp only [Go.Am.look] at hg
  split at hg
  · rename_i e
    subst e
    cases hg
    refine ⟨fun j => match j with | 0 => .int .u8 3 | 1 => .int .u8 4 | 2 => .int .u8 1 | _ => .int .u8 2, fun j y hy => ?_⟩
    match j with
    | 0 => simp [kindsIV] at hy; subst hy; exact ⟨rfl, h0, .sc⟩
    | 1 => simp [kindsIV] at hy; subst hy; exact ⟨rfl, h1, .sc⟩
    | 2 => simp [kindsIV] at hy; subst hy; exact ⟨rfl, h2, .sc⟩
    | 3 => simp [kindsIV] at hy; subst hy; exact ⟨rfl, h3, .sc⟩
    | j + 4 => simp [kindsIV] at hy
  · cases hg

set_option maxRecDepth 100000 in
theorem judgeRound_lifted (os : Os) (started : os.Started) (H : Type) (enc : TypeId × Value → H) :
    ReturnsInHanded {} Tryz.checked os 4 .any (fun w args => (Rows.judgeRoundSpec.pre enc Tryz.prog Tryz.f4 [] false w args ∧ laidMetH Tryz.prog laidK w) ∧ sizedMet enc Tryz.prog Tryz.f4 (OpenSpec.ofChange Rows.judgeRoundSpec) false w args)
      (Rows.judgeRoundSpec.post enc Tryz.prog Tryz.f4 false true false false) := by
  refine returnsInHanded_of_change_and (C := Tryz.checked) (X := fun w _ => laidMetH Tryz.prog laidK w) (fun _ _ _ hh h => h.of_heap hh) own started (by kernel_rfl) Tryz.func4
    (ChangeSpec.witness_shaped (enc := enc) (C := Tryz.checked) (os := os) (X := fun w _ => laidMetH Tryz.prog laidK w) false (World.doorLaid Tryz.prog 400 os) #[.agg #[.slice none 0 0, .slice none 0 0], .bool false, .agg #[.int .u64 0, .int .u64 0]] 8 rfl (World.shaped_of_RefB (by kernel_rfl) (by kernel_rfl)) (by kernel_rfl) (by kernel_rfl) (by kernel_rfl) (door_met os _)) ?_
  intro W base args ds gs before hval hW _ _ hL _
  refine law_contractL (n := 8) (ss := [netSh, [.bool], addrSh]) (ts := [25, 4, 28]) (tb := 4) laidOut rfl rfl Tryz.underlying4 (by kernel_rfl) shNet rfl hval hW [(0, kindsIV)] (kinds_gl hL) ?_ ?_
  · intro xs hx _
    obtain ⟨n, six, a, hn, ha, e⟩ := args_net hx
    rw [e]
    exact judgeRound_spec n six a hn ha
  · intro d hd
    match d, hd with
    | [_, _, _], _ => rfl
theorem judgeRound_said : Rows.JudgeRoundSaid :=
  OpenClaim.holds_of_wide 4 Tryz.f4 rfl rfl rfl rfl rfl rfl rfl ⟨rfl, rfl, rfl, rfl, rfl⟩ rfl rfl rfl rfl rfl (by kernel_rfl) Tryz.func4 (by kernel_rfl)
    (of_decide_eq_true (by kernel_rfl)) (by unfold Func.isWrapper; first | (rw [if_pos (by decide +kernel)]; kernel_rfl) | (rw [if_neg (by decide +kernel)]; exact ⟨rfl, rfl⟩))
    (fun os started H enc _ => judgeRound_lifted os started H enc)
theorem judgeRound_holds : Rows.JudgeRoundCardSaid :=
  Claim7.holds_tied_plain_at .later [] [.data] true (true, "b14678eea4604f10514d275cd64f2b5896c54c9c932a0ae33623d27101879d55") false
    judgeRound_said (fun _ h => by cases h) (by kernel_rfl) (fun _ h => by cases h) judgeRound_row_tie rfl ⟨rfl, rfl⟩ (by kernel_rfl) rfl
    (fun f fn hf hfn => by
      obtain rfl : f = 4 := Option.some.inj ((show Tryz.prog.funcNamed "spoor/spoorlaw24.JudgeRound" = some 4 by kernel_rfl).symm.trans hf) |>.symm
      obtain rfl : fn = Tryz.f4 := (Option.some.inj (Tryz.func4.symm.trans hfn)).symm
      exact ⟨by kernel_rfl, fun j t ht => by
        rw [Tryz.params4] at ht
        have hm : t ∈ [25, 4, 28] := by simpa using Array.mem_of_getElem? ht
        have hall : ([25, 4, 28].all fun u => !Tryz.prog.wantsStandIn u) = true := by kernel_rfl
        exact (show Tryz.prog.wantsStandIn t = false by simpa using List.all_eq_true.1 hall t hm)⟩)
    (by kernel_rfl)
end Go.Proofs.YtnoggcmfnmmjcaaGreatDoor
