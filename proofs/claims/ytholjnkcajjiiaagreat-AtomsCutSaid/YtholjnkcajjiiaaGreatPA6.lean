import Derived.Test.YtholjnkcajjiiaaGreatPA3
import Derived.Test.YtholjnkcajjiiaaGreatPA5
set_option linter.unusedVariables false
set_option linter.unusedSimpArgs false
namespace Go.Am
open Go.Proofs

structure Addr4 where
  hi : Int
  lo : Int
@[simp] def Addr4.av (a : Addr4) : AV := .agg [.int .u64 a.hi, .int .u64 a.lo]
structure Pfx where
  six : Bool
  addr : Addr4
  len : Int
@[simp] def Pfx.av (p : Pfx) : AV := .agg [.bool p.six, .int .u64 p.addr.hi, .int .u64 p.addr.lo, .int .i64 p.len]

def wide (six : Bool) : Int := if six then 128 else 32
theorem wide_spec (six : Bool) : FSpec Tryz.prog 107 [.bool six] [] (.int .i64 (wide six)) [] := by
  refine FSpec.of_flat (q := []) Tryz.func107 (by kernel_rfl) rfl Tryz.ntmps107 Tryz.results107 hP (by kernel_rfl) (by simp) (by first | rfl | simp) ?_
  simp [wide]


def rightA (six : Bool) (a : Addr4) : Bool := six || (a.hi == 0 && a.lo.fdiv (2 ^ 32) == 0)
theorem rightA_spec (six : Bool) (a : Addr4) : FSpec Tryz.prog 69 [.bool six, a.av] [] (.bool (rightA six a)) [] := by
  refine FSpec.of_flat (q := []) Tryz.func69 (by kernel_rfl) rfl Tryz.ntmps69 Tryz.results69 hP (by kernel_rfl) (by simp) (by first | rfl | simp) ?_
  simp [rightA, IntKind.bits]
  intro h; by_cases h0 : a.hi = 0 <;> simp [h, h0]

def orInt : List Int → Int
  | [] => 0
  | x :: l => if x ≠ 0 then x else orInt l
theorem orInt_spec (l : List Int) : FSpec Tryz.prog 105 [.im (.sl 1 (l.map fun x => [.int .i64 x]))] [] (.int .i64 (orInt l)) [] := by
  refine FSpec.bd (enters_of Tryz.func105 (by kernel_rfl) rfl) fun hbd => ?_
  have hl : l.length ≤ 9223372036854775807 := by simpa [maxLen] using hbd
  refine FSpec.of_flat (q := []) Tryz.func105 (by kernel_rfl) rfl Tryz.ntmps105 Tryz.results105 hP (by kernel_rfl) (by simp) (by first | rfl | simp) ?_
  simp
  refine LoopK.plain (fun k : Nat => [(2, .int .i64 0), (3, .int .i64 0), (6, .im (.sl 1 (l.map fun x => [.int .i64 x]))), (7, .int .i64 l.length), (8, .int .i64 k)]) (fun k => k ≤ l.length ∧ orInt (l.drop k) = orInt l)
    (fun k => l.length - k) 0 (by simp) (by simp) ?_
  rintro k ⟨hk, hR⟩
  by_cases hlt : k < l.length
  · have hs : l[k]? = some l[k] := List.getElem?_eq_getElem hlt
    have hw : IntKind.i64.wrap (k + 1) = (k + 1 : Nat) := wrap64 (by omega) (by omega)
    rw [List.drop_eq_getElem_cons hlt, orInt] at hR
    simp [hlt, hs, hw]
    refine ⟨fun h => by simpa [h] using hR, fun h => ?_⟩
    refine Again.plain (k + 1) ⟨hlt, by simpa [h] using hR⟩ (by omega) (by simp)
  · simp at hlt
    have : k = l.length := by omega
    subst this
    simp [orInt] at hR
    simp [← hR]

def cmpI (a b : Int) : Int := if a < b then -1 else if a > b then 1 else 0
theorem isNaNI_spec (a : Int) : FSpec Tryz.prog 199 [.int .i64 a] [] (.bool false) [] := by
  refine FSpec.of_flat (q := []) Tryz.func199 (by kernel_rfl) rfl Tryz.ntmps199 Tryz.results199 hP (by kernel_rfl) (by simp) (by first | rfl | simp) ?_
  simp
theorem isNaNU_spec (a : Int) : FSpec Tryz.prog 144 [.int .u64 a] [] (.bool false) [] := by
  refine FSpec.of_flat (q := []) Tryz.func144 (by kernel_rfl) rfl Tryz.ntmps144 Tryz.results144 hP (by kernel_rfl) (by simp) (by first | rfl | simp) ?_
  simp
theorem cmpI_spec (a b : Int) : FSpec Tryz.prog 155 [.int .i64 a, .int .i64 b] [] (.int .i64 (cmpI a b)) [] := by
  refine FSpec.of_flat (q := []) Tryz.func155 (by kernel_rfl) rfl Tryz.ntmps155 Tryz.results155 hP (by kernel_rfl) (by simp) (by first | rfl | simp) ?_
  simp
  refine CallK.same (isNaNI_spec _) rfl rfl ?_
  simp
  refine CallK.same (isNaNI_spec _) rfl rfl ?_
  simp [cmpI]
  refine ⟨fun h h' => by omega, fun h => ⟨fun h' => ?_, fun h' => ?_⟩⟩
  all_goals (repeat' split) <;> omega
theorem cmpU_spec (a b : Int) : FSpec Tryz.prog 106 [.int .u64 a, .int .u64 b] [] (.int .i64 (cmpI a b)) [] := by
  refine FSpec.of_flat (q := []) Tryz.func106 (by kernel_rfl) rfl Tryz.ntmps106 Tryz.results106 hP (by kernel_rfl) (by simp) (by first | rfl | simp) ?_
  simp
  refine CallK.same (isNaNU_spec _) rfl rfl ?_
  simp
  refine CallK.same (isNaNU_spec _) rfl rfl ?_
  simp [cmpI]
  refine ⟨fun h h' => by omega, fun h => ⟨fun h' => ?_, fun h' => ?_⟩⟩
  all_goals (repeat' split) <;> omega

def cmpA (a b : Addr4) : Int := orInt [cmpI a.hi b.hi, cmpI a.lo b.lo]
theorem cmpA_spec (a b : Addr4) : FSpec Tryz.prog 70 [a.av, b.av] [] (.int .i64 (cmpA a b)) [] := by
  refine FSpec.of_flat (q := [(1, .n 9)]) Tryz.func70 (by kernel_rfl) rfl Tryz.ntmps70 Tryz.results70 hP (by kernel_rfl) (by simp) (by first | rfl | simp) ?_
  simp
  refine CallQ.same (cmpU_spec _ _) rfl rfl ?_
  simp
  refine CallK.same (cmpU_spec _ _) rfl rfl ?_
  simp
  refine CallK.fz [2] (orInt_spec [cmpI a.hi b.hi, cmpI a.lo b.lo]) (by simp) (by simp) rfl ?_
  simp [cmpA]
end Go.Am


set_option linter.unusedVariables false
set_option linter.unusedSimpArgs false
namespace Go.Am
open Go.Proofs

def below (n : Int) : Addr4 :=
  if n ≥ 128 then ⟨18446744073709551615, 18446744073709551615⟩
  else if n ≥ 64 then ⟨IntKind.u64.wrap (IntKind.u64.wrap (2 ^ min (n - 64).toNat 64) - 1), 18446744073709551615⟩
  else ⟨0, IntKind.u64.wrap (IntKind.u64.wrap (2 ^ min n.toNat 64) - 1)⟩
theorem below_spec (n : Int) (h0 : 0 ≤ n) : FSpec Tryz.prog 145 [.int .i64 n] [] (below n).av [] := by
  refine FSpec.of_flat (q := []) Tryz.func145 (by kernel_rfl) rfl Tryz.ntmps145 Tryz.results145 hP (by kernel_rfl) (by simp) (by first | rfl | simp) ?_
  simp [below]
  refine ⟨fun h => by simp [h], fun h => ⟨fun h' => ?_, fun h' => ?_⟩⟩
  · have hw : IntKind.i64.wrap (n - 64) = n - 64 := wrap64 (by omega) (by omega)
    simp [show ¬ 128 ≤ n by omega, h', hw]
  · simp [show ¬ 128 ≤ n by omega, show ¬ 64 ≤ n by omega, h0]
def host (p : Pfx) : Addr4 := below (wide p.six - p.len)
theorem wide_le (b : Bool) : 0 ≤ wide b ∧ wide b ≤ 128 := by cases b <;> decide
theorem host_spec (p : Pfx) (h0 : p.len ≤ wide p.six) (h1 : 0 ≤ p.len) : FSpec Tryz.prog 108 [p.av] [] (host p).av [] := by
  have hw : IntKind.i64.wrap (wide p.six - p.len) = wide p.six - p.len := wrap64 (by have := wide_le p.six; omega) (by have := wide_le p.six; omega)
  refine FSpec.of_flat (q := [(1, .n 5)]) Tryz.func108 (by kernel_rfl) rfl Tryz.ntmps108 Tryz.results108 hP (by kernel_rfl) (by simp) (by first | rfl | simp) ?_
  simp
  refine CallQ.same (wide_spec _) rfl rfl ?_
  simp [hw]
  refine CallK.same (below_spec _ (by omega)) rfl rfl ?_
  simp [host]

abbrev and64 := andI .u64
abbrev or64 := orI .u64
def checkP (p : Pfx) : Int :=
  if p.len < 0 || wide p.six < p.len || !rightA p.six p.addr then 2
  else if or64 (and64 p.addr.hi (host p).hi) (and64 p.addr.lo (host p).lo) ≠ 0 then 2 else 0
theorem checkP_spec (p : Pfx) : FSpec Tryz.prog 73 [p.av] [] (.int .i64 (checkP p)) [] := by
  refine FSpec.of_flat (q := [(1, .n 16)]) Tryz.func73 (by kernel_rfl) rfl Tryz.ntmps73 Tryz.results73 hP (by kernel_rfl) (by simp) (by first | rfl | simp) ?_
  simp
  refine CallQG.same _ (wide_spec _) rfl ?_
  simp
  refine CallG.same _ (rightA_spec p.six p.addr) rfl ?_
  simp
  refine ⟨?_, fun h0 h1 h2 => ?_⟩
  · rintro ((h | h) | h) <;> simp [checkP, h]
  · refine CallK.same (host_spec p h1 h0) rfl rfl ?_
    simp [checkP, h2, show ¬ p.len < 0 by omega, show ¬ wide p.six < p.len by omega]
end Go.Am


set_option linter.unusedVariables false
set_option linter.unusedSimpArgs false
namespace Go.Am
open Go.Proofs

structure Seat where
  router : Int
  seq : Int
  time : Int
  up : Bool
@[simp] def Seat.iv (s : Seat) : List IV := [.sc (.int .i64 s.router), .sc (.int .u64 s.seq), .sc (.int .i64 s.time), .sc (.bool s.up)]
@[simp] def Seat.av (s : Seat) : AV := .agg [.int .i64 s.router, .int .u64 s.seq, .int .i64 s.time, .bool s.up]
def rightS (s : Seat) : Bool := decide (0 ≤ s.router) && decide (s.router ≤ 1048576) && decide (1 ≤ s.seq) && decide (s.seq ≤ 1099511627776) && decide (0 ≤ s.time) && decide (s.time ≤ 1099511627776)
theorem rightS_spec (s : Seat) : FSpec Tryz.prog 149 [s.av] [] (.bool (rightS s)) [] := by
  refine FSpec.of_flat (q := []) Tryz.func149 (by kernel_rfl) rfl Tryz.ntmps149 Tryz.results149 hP (by kernel_rfl) (by simp) (by first | rfl | simp) ?_
  simp [rightS]

def checkSL : List Seat → Int → Int
  | [], _ => 0
  | s :: t, ah => if !rightS s || decide (s.router ≤ ah) then 2 else checkSL t s.router
def checkS (l : List Seat) : Int := if l.length > 64 then 2 else checkSL l (-1)
theorem checkS_spec (l : List Seat) : FSpec Tryz.prog 120 [.im (.sl 4 (l.map Seat.iv))] [] (.int .i64 (checkS l)) [] := by
  refine FSpec.of_flat (q := []) Tryz.func120 (by kernel_rfl) rfl Tryz.ntmps120 Tryz.results120 hP (by kernel_rfl) (by simp) (by first | rfl | simp) ?_
  simp [checkS]
  refine ⟨fun h h' => by omega, fun hle => ?_⟩
  refine LoopK.plain (fun g : Nat × Int => [(3, .int .i64 g.2), (9, .im (.sl 4 (l.map Seat.iv))), (10, .int .i64 l.length), (11, .int .i64 g.1)]) (fun g => g.1 ≤ l.length ∧ checkSL (l.drop g.1) g.2 = checkSL l (-1))
    (fun g => l.length - g.1) (0, -1) (by simp) (by simp) ?_
  rintro ⟨k, ah⟩ ⟨hk, hR⟩
  simp only at hk hR
  by_cases hlt : k < l.length
  · have hs : l[k]? = some l[k] := List.getElem?_eq_getElem hlt
    have hw : IntKind.i64.wrap (k + 1) = (k + 1 : Nat) := wrap64 (by omega) (by omega)
    rw [List.drop_eq_getElem_cons hlt, checkSL] at hR
    simp [hlt, hs, hw]
    refine CallK.same (rightS_spec l[k]) rfl rfl ?_
    simp [hw]
    refine ⟨fun h _ => ?_, fun h h' => ?_⟩
    · rw [← hR, if_pos (by simpa using h)]
    · refine Again.plain (k + 1, l[k].router) ⟨hlt, ?_⟩ (by simp only; omega) (by simp)
      rw [← hR, if_neg (by simp [h]; omega)]
  · simp at hlt
    have : k = l.length := by omega
    subst this
    simp [checkSL] at hR
    simp [← hR]
    omega
end Go.Am


set_option linter.unusedVariables false
set_option linter.unusedSimpArgs false
namespace Go.Am
open Go.Proofs

structure Link where
  iface : Int
  peer : Int
@[simp] def Link.iv (s : Link) : List IV := [.sc (.int .i64 s.iface), .sc (.int .i64 s.peer)]
@[simp] def Link.av (s : Link) : AV := .agg [.int .i64 s.iface, .int .i64 s.peer]
def rightL (s : Link) : Bool := decide (0 ≤ s.iface) && decide (s.iface ≤ 65536) && decide (0 ≤ s.peer) && decide (s.peer ≤ 1048576)
theorem rightL_spec (s : Link) : FSpec Tryz.prog 198 [s.av] [] (.bool (rightL s)) [] := by
  refine FSpec.of_flat (q := []) Tryz.func198 (by kernel_rfl) rfl Tryz.ntmps198 Tryz.results198 hP (by kernel_rfl) (by simp) (by first | rfl | simp) ?_
  simp [rightL]
theorem rightLr_spec (s : Link) : FSpec Tryz.prog 214 [s.av] [] (.bool (rightL s)) [] := by
  refine FSpec.of_flat (q := []) Tryz.func214 (by kernel_rfl) rfl Tryz.ntmps214 Tryz.results214 hP (by kernel_rfl) (by simp) (by first | rfl | simp) ?_
  simp [rightL]
def idOk (n : Int) : Bool := decide (0 ≤ n) && decide (n ≤ 1048576)
theorem idOk_spec (n : Int) : FSpec Tryz.prog 150 [.int .i64 n] [] (.bool (idOk n)) [] := by
  refine FSpec.of_flat (q := []) Tryz.func150 (by kernel_rfl) rfl Tryz.ntmps150 Tryz.results150 hP (by kernel_rfl) (by simp) (by first | rfl | simp) ?_
  simp [idOk]

def checkLL : List Link → Int → Int
  | [], _ => 0
  | s :: t, ah => if !rightL s || decide (s.iface ≤ ah) then 2 else checkLL t s.iface
def checkL (l : List Link) : Int := if l.length > 32 then 2 else checkLL l (-1)
theorem checkL_spec (l : List Link) : FSpec Tryz.prog 152 [.im (.sl 2 (l.map Link.iv))] [] (.int .i64 (checkL l)) [] := by
  refine FSpec.of_flat (q := []) Tryz.func152 (by kernel_rfl) rfl Tryz.ntmps152 Tryz.results152 hP (by kernel_rfl) (by simp) (by first | rfl | simp) ?_
  simp [checkL]
  refine ⟨fun h h' => by omega, fun hle => ?_⟩
  refine LoopK.plain (fun g : Nat × Int => [(3, .int .i64 g.2), (9, .im (.sl 2 (l.map Link.iv))), (10, .int .i64 l.length), (11, .int .i64 g.1)]) (fun g => g.1 ≤ l.length ∧ checkLL (l.drop g.1) g.2 = checkLL l (-1))
    (fun g => l.length - g.1) (0, -1) (by simp) (by simp) ?_
  rintro ⟨k, ah⟩ ⟨hk, hR⟩
  simp only at hk hR
  by_cases hlt : k < l.length
  · have hs : l[k]? = some l[k] := List.getElem?_eq_getElem hlt
    have hw : IntKind.i64.wrap (k + 1) = (k + 1 : Nat) := wrap64 (by omega) (by omega)
    rw [List.drop_eq_getElem_cons hlt, checkLL] at hR
    simp [hlt, hs, hw]
    refine CallK.same (rightL_spec l[k]) rfl rfl ?_
    simp [hw]
    refine ⟨fun h _ => ?_, fun h h' => ?_⟩
    · rw [← hR, if_pos (by simpa using h)]
    · refine Again.plain (k + 1, l[k].iface) ⟨hlt, ?_⟩ (by simp only; omega) (by simp)
      rw [← hR, if_neg (by simp [h]; omega)]
  · simp at hlt
    have : k = l.length := by omega
    subst this
    simp [checkLL] at hR
    simp [← hR]
    omega
end Go.Am


set_option linter.unusedVariables false
set_option linter.unusedSimpArgs false
namespace Go.Am
open Go.Proofs

def prevL (l : List Link) (k : Nat) : Int := if k = 0 then -1 else ((l[k - 1]?).map Link.iface).getD 0
theorem checkLr_spec (l : List Link) : FSpec Tryz.prog 167 [.im (.sl 2 (l.map Link.iv))] [] (.int .i64 (checkL l)) [] := by
  refine FSpec.of_flat (q := [(6, .n 15)]) Tryz.func167 (by kernel_rfl) rfl Tryz.ntmps167 Tryz.results167 hP (by kernel_rfl) (by simp) (by first | rfl | simp) ?_
  simp [checkL]
  refine ⟨fun h h' => by omega, fun hle => ?_⟩
  refine LoopK.plain (fun k : Nat => [(0, .im (.sl 2 (l.map Link.iv))), (8, .im (.sl 2 (l.map Link.iv))), (9, .int .i64 l.length), (10, .int .i64 k)]) (fun k => k ≤ l.length ∧ checkLL (l.drop k) (prevL l k) = checkLL l (-1))
    (fun k => l.length - k) 0 (by simp [prevL]) (by simp) ?_
  rintro k ⟨hk, hR⟩
  by_cases hlt : k < l.length
  · have hs : l[k]? = some l[k] := List.getElem?_eq_getElem hlt
    have hw : IntKind.i64.wrap (k + 1) = (k + 1 : Nat) := wrap64 (by omega) (by omega)
    rw [List.drop_eq_getElem_cons hlt, checkLL] at hR
    simp [hlt, hs, hw]
    refine CallQ.same (rightLr_spec l[k]) rfl rfl ?_
    have hw1 : IntKind.i64.wrap (k - 1) = (k : Int) - 1 := wrap64 (by omega) (by omega)
    obtain ⟨y, hy, hp⟩ : ∃ y, l[k - 1]? = some y ∧ (0 < k → y.iface = prevL l k) := by
      refine ⟨l[k - 1]'(by omega), List.getElem?_eq_getElem (by omega), fun h => ?_⟩
      simp [prevL, show k ≠ 0 by omega, List.getElem?_eq_getElem (show k - 1 < l.length by omega)]
    simp [hw, hw1, hy]
    have hr0 : rightL l[k] = true → 0 ≤ l[k].iface := by intro h; simp [rightL] at h; omega
    have hp0 : k = 0 → prevL l k = -1 := by intro h; simp [prevL, h]
    refine ⟨fun _ h => ⟨by omega, by omega⟩, fun h => by simp [h, impB], fun h _ => ?_, fun h h' => ?_⟩
    · rw [← hR, if_pos ?_]
      rcases h with h | ⟨h0, h1⟩
      · simp [h]
      · have := hp h0
        simp; right; omega
    · refine Again.plain (k + 1) ⟨hlt, ?_⟩ (by omega) (by simp)
      rw [← hR, if_neg ?_]
      · simp [prevL, hs]
      · have := hr0 h
        simp [h]
        rcases Nat.eq_zero_or_pos k with e | e
        · have := hp0 e; omega
        · have := hp e; have := h' e; omega
  · simp at hlt
    have : k = l.length := by omega
    subst this
    simp [checkLL] at hR
    simp [← hR]
    omega
end Go.Am


set_option linter.unusedVariables false
set_option linter.unusedSimpArgs false
namespace Go.Am
open Go.Proofs

def prevS (l : List Seat) (k : Nat) : Int := if k = 0 then -1 else ((l[k - 1]?).map Seat.router).getD 0
set_option maxRecDepth 4000 in
theorem checkSr_spec (l : List Seat) : FSpec Tryz.prog 130 [.im (.sl 4 (l.map Seat.iv))] [] (.int .i64 (checkS l)) [] := by
  refine FSpec.of_flat (q := [(8, .n 11)]) Tryz.func130 (by kernel_rfl) rfl Tryz.ntmps130 Tryz.results130 hP (by kernel_rfl) (by simp) (by first | rfl | simp) ?_
  simp [checkS]
  refine ⟨fun h h' => by omega, fun hle => ?_⟩
  refine LoopK.plain (fun k : Nat => [(0, .im (.sl 4 (l.map Seat.iv))), (8, .im (.sl 4 (l.map Seat.iv))), (9, .int .i64 l.length), (10, .int .i64 k)]) (fun k => k ≤ l.length ∧ checkSL (l.drop k) (prevS l k) = checkSL l (-1))
    (fun k => l.length - k) 0 (by simp [prevS]) (by simp) ?_
  rintro k ⟨hk, hR⟩
  by_cases hlt : k < l.length
  · have hs : l[k]? = some l[k] := List.getElem?_eq_getElem hlt
    have hw : IntKind.i64.wrap (k + 1) = (k + 1 : Nat) := wrap64 (by omega) (by omega)
    rw [List.drop_eq_getElem_cons hlt, checkSL] at hR
    have hw1 : IntKind.i64.wrap (k - 1) = (k : Int) - 1 := wrap64 (by omega) (by omega)
    obtain ⟨y, hy, hp⟩ : ∃ y, l[k - 1]? = some y ∧ (0 < k → y.router = prevS l k) := by
      refine ⟨l[k - 1]'(by omega), List.getElem?_eq_getElem (by omega), fun h => ?_⟩
      simp [prevS, show k ≠ 0 by omega, List.getElem?_eq_getElem (show k - 1 < l.length by omega)]
    simp [hlt, hs, hw, hw1, hy]
    have hp0 : k = 0 → prevS l k = -1 := by intro h; simp [prevS, h]
    refine ⟨fun h _ => ?_, fun a1 a2 a3 a4 a5 a6 => ?_⟩
    · rw [← hR, if_pos ?_]
      have : rightS l[k] = false := by
        simp only [rightS, Bool.and_eq_false_iff, decide_eq_false_iff_not]
        omega
      simp [this]
    · have hr : rightS l[k] = true := by simp [rightS]; omega
      refine ⟨fun h => ⟨by omega, by omega⟩, fun h0 h1 _ => ?_, fun h' => ?_⟩
      · rw [← hR, if_pos ?_]
        have := hp h0
        simp; right; omega
      · refine Again.plain (k + 1) ⟨hlt, ?_⟩ (by omega) (by simp)
        rw [← hR, if_neg ?_]
        · simp [prevS, hs]
        · simp [hr]
          rcases Nat.eq_zero_or_pos k with e | e
          · have := hp0 e; omega
          · have := hp e; have := h' e; omega
  · simp at hlt
    have : k = l.length := by omega
    subst this
    simp [checkSL] at hR
    simp [← hR]
    omega
end Go.Am


set_option linter.unusedVariables false
set_option linter.unusedSimpArgs false
namespace Go.Am
open Go.Proofs

structure Act where
  kind : Int
  iface : Int
structure Route where
  pfx : Pfx
  act : Act
@[simp] def Route.iv (r : Route) : List IV := [.sc (.bool r.pfx.six), .sc (.int .u64 r.pfx.addr.hi), .sc (.int .u64 r.pfx.addr.lo), .sc (.int .i64 r.pfx.len), .sc (.int .u8 r.act.kind), .sc (.int .i64 r.act.iface)]
@[simp] def Route.av (r : Route) : AV := .agg (r.iv.map .im)
structure Router where
  id : Int
  up : Bool
  routes : List Route
  links : List Link
@[simp] def Router.iv (r : Router) : List IV := [.sc (.int .i64 r.id), .sc (.bool r.up), .sl 6 (r.routes.map Route.iv), .sl 2 (r.links.map Link.iv)]
def many : List Router → Int → Int
  | [], n => n
  | r :: l, n => many l (IntKind.i64.wrap (n + IntKind.i64.wrap (r.routes.length + r.links.length)))
theorem total_spec (l : List Router) : FSpec Tryz.prog 121 [.im (.sl 4 (l.map Router.iv))] [] (.int .i64 (many l 0)) [] := by
  refine FSpec.bd (enters_of Tryz.func121 (by kernel_rfl) rfl) fun hbd => ?_
  have hl : l.length ≤ 9223372036854775807 := by simp [maxLen] at hbd; exact hbd.1
  refine FSpec.of_flat (q := []) Tryz.func121 (by kernel_rfl) rfl Tryz.ntmps121 Tryz.results121 hP (by kernel_rfl) (by simp) (by first | rfl | simp) ?_
  simp
  refine LoopK.plain (fun g : Nat × Int => [(3, .int .i64 g.2), (6, .im (.sl 4 (l.map Router.iv))), (7, .int .i64 l.length), (8, .int .i64 g.1)]) (fun g => g.1 ≤ l.length ∧ many (l.drop g.1) g.2 = many l 0)
    (fun g => l.length - g.1) (0, 0) (by simp) (by simp) ?_
  rintro ⟨k, n⟩ ⟨hk, hR⟩
  simp only at hk hR
  by_cases hlt : k < l.length
  · have hs : l[k]? = some l[k] := List.getElem?_eq_getElem hlt
    have hw : IntKind.i64.wrap (k + 1) = (k + 1 : Nat) := wrap64 (by omega) (by omega)
    rw [List.drop_eq_getElem_cons hlt, many] at hR
    simp [hlt, hs, hw]
    exact Again.plain (k + 1, IntKind.i64.wrap (n + IntKind.i64.wrap (l[k].routes.length + l[k].links.length))) ⟨hlt, hR⟩ (by simp only; omega) (by simp)
  · simp at hlt
    have : k = l.length := by omega
    subst this
    simp [many] at hR
    simp [← hR]
theorem manyr_spec (l : List Router) : FSpec Tryz.prog 132 [.im (.sl 4 (l.map Router.iv))] [] (.int .i64 (many l 0)) [] := by
  refine FSpec.bd (enters_of Tryz.func132 (by kernel_rfl) rfl) fun hbd => ?_
  have hl : l.length ≤ 9223372036854775807 := by simp [maxLen] at hbd; exact hbd.1
  refine FSpec.of_flat (q := []) Tryz.func132 (by kernel_rfl) rfl Tryz.ntmps132 Tryz.results132 hP (by kernel_rfl) (by simp) (by first | rfl | simp) ?_
  simp
  refine LoopK.plain (fun g : Nat × Int => [(3, .int .i64 g.2), (6, .im (.sl 4 (l.map Router.iv))), (7, .int .i64 l.length), (8, .int .i64 g.1)]) (fun g => g.1 ≤ l.length ∧ many (l.drop g.1) g.2 = many l 0)
    (fun g => l.length - g.1) (0, 0) (by simp) (by simp) ?_
  rintro ⟨k, n⟩ ⟨hk, hR⟩
  simp only at hk hR
  by_cases hlt : k < l.length
  · have hs : l[k]? = some l[k] := List.getElem?_eq_getElem hlt
    have hw : IntKind.i64.wrap (k + 1) = (k + 1 : Nat) := wrap64 (by omega) (by omega)
    rw [List.drop_eq_getElem_cons hlt, many] at hR
    simp [hlt, hs, hw]
    exact Again.plain (k + 1, IntKind.i64.wrap (n + IntKind.i64.wrap (l[k].routes.length + l[k].links.length))) ⟨hlt, hR⟩ (by simp only; omega) (by simp)
  · simp at hlt
    have : k = l.length := by omega
    subst this
    simp [many] at hR
    simp [← hR]
end Go.Am


set_option linter.unusedVariables false
set_option linter.unusedSimpArgs false
namespace Go.Am
open Go.Proofs

def kindP (p : Pfx) : Int := if p.six then 1 else 0
theorem kindP_spec (p : Pfx) : FSpec Tryz.prog 229 [p.av] [] (.int .i64 (kindP p)) [] := by
  refine FSpec.of_flat (q := []) Tryz.func229 (by kernel_rfl) rfl Tryz.ntmps229 Tryz.results229 hP (by kernel_rfl) (by simp) (by first | rfl | simp) ?_
  simp [kindP]
theorem wider_spec (six : Bool) : FSpec Tryz.prog 113 [.bool six] [] (.int .i64 (wide six)) [] := by
  refine FSpec.of_flat (q := []) Tryz.func113 (by kernel_rfl) rfl Tryz.ntmps113 Tryz.results113 hP (by kernel_rfl) (by simp) (by first | rfl | simp) ?_
  simp [wide]
theorem cmpAr_spec (a b : Addr4) : FSpec Tryz.prog 72 [a.av, b.av] [] (.int .i64 (cmpA a b)) [] := by
  refine FSpec.of_flat (q := []) Tryz.func72 (by kernel_rfl) rfl Tryz.ntmps72 Tryz.results72 hP (by kernel_rfl) (by simp) (by first | rfl | simp) ?_
  simp [cmpA, orInt, cmpI]
  refine ⟨fun h => by simp [impB]; omega, fun h => ?_, fun h1 h2 => ⟨fun h3 h4 => ?_, fun h3 => ?_⟩⟩
  all_goals repeat' split
  all_goals omega
def cmpP (p q : Pfx) : Int := orInt [cmpI (kindP p) (kindP q), cmpA p.addr q.addr, cmpI p.len q.len]
theorem cmpP_spec (p q : Pfx) : FSpec Tryz.prog 197 [p.av, q.av] [] (.int .i64 (cmpP p q)) [] := by
  refine FSpec.of_flat (q := [(1, .n 14)]) Tryz.func197 (by kernel_rfl) rfl Tryz.ntmps197 Tryz.results197 hP (by kernel_rfl) (by simp) (by first | rfl | simp) ?_
  simp
  refine CallQ.same (kindP_spec p) rfl rfl ?_
  simp
  refine CallQ.same (kindP_spec q) rfl rfl ?_
  simp
  refine CallQ.same (cmpI_spec _ _) rfl rfl ?_
  simp
  refine CallQ.same (cmpA_spec p.addr q.addr) rfl rfl ?_
  simp
  refine CallK.same (cmpI_spec _ _) rfl rfl ?_
  simp
  refine CallK.fz [2] (orInt_spec [cmpI (kindP p) (kindP q), cmpA p.addr q.addr, cmpI p.len q.len]) (by simp) (by simp) rfl ?_
  simp [cmpP]
end Go.Am


set_option linter.unusedVariables false
set_option linter.unusedSimpArgs false
namespace Go.Am
open Go.Proofs

theorem cmpI_vals (a b : Int) : cmpI a b = -1 ∧ a < b ∨ cmpI a b = 0 ∧ a = b ∨ cmpI a b = 1 ∧ b < a := by unfold cmpI; split <;> (try split) <;> omega
theorem cmpP_lt (p q : Pfx) : (cmpP p q < 0) = (if p.six ≠ q.six then q.six = true else cmpA p.addr q.addr < 0 ∨ cmpA p.addr q.addr = 0 ∧ p.len < q.len) := by
  have h1 := cmpI_vals (kindP p) (kindP q)
  have h3 := cmpI_vals p.len q.len
  simp only [cmpP, orInt]
  generalize cmpA p.addr q.addr = c at *
  generalize cmpI p.len q.len = d at *
  generalize he : cmpI (kindP p) (kindP q) = e at *
  revert h1
  unfold kindP
  cases p.six <;> cases q.six <;> simp <;> intro h1 <;> (repeat' split) <;> omega
theorem lessP_spec (p q : Pfx) : FSpec Tryz.prog 213 [p.av, q.av] [] (.bool (decide (cmpP p q < 0))) [] := by
  refine FSpec.of_flat (q := []) Tryz.func213 (by kernel_rfl) rfl Tryz.ntmps213 Tryz.results213 hP (by kernel_rfl) (by simp) (by first | rfl | simp) ?_
  simp
  refine ⟨fun h => by simp [cmpP_lt, h], fun h => ?_⟩
  refine CallK.same (cmpAr_spec p.addr q.addr) rfl rfl ?_
  simp [cmpP_lt, h]
  exact ⟨fun h => by simp [impB]; omega, by congr 2⟩
end Go.Am


set_option linter.unusedVariables false
set_option linter.unusedSimpArgs false
namespace Go.Am
open Go.Proofs

@[simp] def Act.av (a : Act) : AV := .agg [.int .u8 a.kind, .int .i64 a.iface]
def ifaceOk (n : Int) : Bool := decide (0 ≤ n) && decide (n ≤ 65536)
theorem ifaceOk_spec (n : Int) : FSpec Tryz.prog 237 [.int .i64 n] [] (.bool (ifaceOk n)) [] := by
  refine FSpec.of_flat (q := []) Tryz.func237 (by kernel_rfl) rfl Tryz.ntmps237 Tryz.results237 hP (by kernel_rfl) (by simp) (by first | rfl | simp) ?_
  simp [ifaceOk]
def actOk (a : Act) : Bool := if a.kind = 1 then ifaceOk a.iface else (a.kind == 2 || a.kind == 3) && a.iface == 0
theorem actOk_spec (a : Act) : FSpec Tryz.prog 236 [a.av] [] (.bool (actOk a)) [] := by
  refine FSpec.of_flat (q := []) Tryz.func236 (by kernel_rfl) rfl Tryz.ntmps236 Tryz.results236 hP (by kernel_rfl) (by simp) (by first | rfl | simp) ?_
  simp
  refine ⟨fun h => ?_, fun h => ?_⟩
  · refine CallK.same (ifaceOk_spec _) rfl rfl ?_
    simp [actOk, h]
  · simp [actOk, h]
    omega
theorem actOkr_spec (a : Act) : FSpec Tryz.prog 215 [a.av] [] (.bool (actOk a)) [] := by
  refine FSpec.of_flat (q := []) Tryz.func215 (by kernel_rfl) rfl Tryz.ntmps215 Tryz.results215 hP (by kernel_rfl) (by simp) (by first | rfl | simp) ?_
  simp [actOk, ifaceOk]
  exact ⟨fun h h' => absurd h h', fun h h' => absurd h' h⟩
end Go.Am


set_option linter.unusedVariables false
set_option linter.unusedSimpArgs false
set_option pp.deepTerms false
set_option pp.deepTerms.threshold 40
namespace Go.Am
open Go.Proofs

def Addr4.wf (a : Addr4) : Prop := 0 ≤ a.hi ∧ a.hi < 18446744073709551616 ∧ 0 ≤ a.lo ∧ a.lo < 18446744073709551616
def Addr4.num (a : Addr4) : Nat := a.hi.toNat * 18446744073709551616 + a.lo.toNat
def wideN (six : Bool) : Nat := if six then 128 else 32
def loK (V k : Nat) : Int := ((V / 2 ^ k % 18446744073709551616 : Nat) : Int)
def hiK (V k : Nat) : Int := ((V / 2 ^ k / 18446744073709551616 : Nat) : Int)
def bitAt (W V j : Nat) : Int := ((V / 2 ^ (W - 1 - j) % 2 : Nat) : Int)
def bitsL (W V k : Nat) : List Int := (List.range W).map fun j => if W ≤ j + k then bitAt W V j else 0
def bitsA (six : Bool) (a : Addr4) : List Int := bitsL (wideN six) a.num (wideN six)
def rowI (l : List Int) : List (List IV) := l.map fun x => [.sc (.int .i64 x)]

theorem bitsL_step (W V k : Nat) (h : k < W) : (bitsL W V k).set (W - 1 - k) (bitAt W V (W - 1 - k)) = bitsL W V (k + 1) := by
  apply List.ext_getElem?
  intro j
  unfold bitsL
  by_cases hj : j < W
  · rw [List.getElem?_set]
    simp only [List.length_map, List.length_range, List.getElem?_map, List.getElem?_range hj, Option.map_some]
    by_cases e : W - 1 - k = j
    · subst e
      rw [if_pos rfl, if_pos (by omega), if_pos (by omega)]
    · rw [if_neg e]
      by_cases h2 : W ≤ j + k
      · rw [if_pos h2, if_pos (by omega)]
      · rw [if_neg h2, if_neg (by omega)]
  · rw [List.getElem?_eq_none (by simp; omega), List.getElem?_eq_none (by simp; omega)]
theorem rowI_modify (l : List Int) (i : Nat) (x : Int) (f : List IV → List IV) (hf : ∀ y, f [y] = [.sc (.int .i64 x)]) : (rowI l).modify i f = rowI (l.set i x) := by
  apply List.ext_getElem?
  intro j
  unfold rowI
  rw [List.getElem?_modify, List.getElem?_map, List.getElem?_map, List.getElem?_set]
  by_cases e : i = j
  · subst e
    cases h : l[i]? with
    | none => simp; have := List.getElem?_eq_none_iff.1 h; omega
    | some y => simp [hf]; have := (List.getElem?_eq_some_iff.1 h).1; omega
  · simp [e]
@[simp] theorem rowI_length (l : List Int) : (rowI l).length = l.length := by simp [rowI]
@[simp] theorem bitsL_length (W V k : Nat) : (bitsL W V k).length = W := by simp [bitsL]
theorem bit_eq (W V k : Nat) (h : k < W) : IntKind.i64.wrap ((loK V k).tmod 2) = bitAt W V (W - 1 - k) := by
  unfold loK bitAt
  rw [show W - 1 - (W - 1 - k) = k by omega]
  generalize V / 2 ^ k = x
  rw [Int.tmod_eq_emod_of_nonneg (by omega)]
  rw [wrap64 (by omega) (by omega)]
  omega
theorem wrapU {x : Int} (h0 : 0 ≤ x) (h1 : x < 18446744073709551616) : IntKind.u64.wrap x = x := by
  simp [IntKind.wrap, IntKind.signed, IntKind.bits]
  omega
theorem hi_step (V k : Nat) (hV : V < 340282366920938463463374607431768211456) : IntKind.u64.wrap ((hiK V k).tdiv 2) = hiK V (k + 1) := by
  unfold hiK
  have : V / 2 ^ (k + 1) = V / 2 ^ k / 2 := by rw [Nat.pow_succ, Nat.div_div_eq_div_mul]
  rw [this]
  have hx : V / 2 ^ k ≤ V := Nat.div_le_self _ _
  generalize V / 2 ^ k = x at *
  rw [Int.tdiv_eq_ediv_of_nonneg (by omega), wrapU (by omega) (by omega)]
  omega
theorem lo_step (V k : Nat) (hV : V < 340282366920938463463374607431768211456) : IntKind.u64.wrap (IntKind.u64.wrap ((loK V k).tdiv 2) + IntKind.u64.wrap ((hiK V k).tmod 2 * 9223372036854775808)) = loK V (k + 1) := by
  unfold hiK loK
  have : V / 2 ^ (k + 1) = V / 2 ^ k / 2 := by rw [Nat.pow_succ, Nat.div_div_eq_div_mul]
  rw [this]
  have hx : V / 2 ^ k ≤ V := Nat.div_le_self _ _
  generalize V / 2 ^ k = x at *
  rw [Int.tdiv_eq_ediv_of_nonneg (by omega), Int.tmod_eq_emod_of_nonneg (by omega), wrapU (x := ((x % 18446744073709551616 : Nat) : Int) / 2) (by omega) (by omega), wrapU (x := ((x / 18446744073709551616 : Nat) : Int) % 2 * 9223372036854775808) (by omega) (by omega), wrapU (by omega) (by omega)]
  omega
theorem bitsL_zero (W V : Nat) : bitsL W V 0 = List.replicate W 0 := by
  apply List.ext_getElem?
  intro j
  unfold bitsL
  by_cases hj : j < W
  · simp [hj]; omega
  · rw [List.getElem?_eq_none (by simp; omega), List.getElem?_eq_none (by simp; omega)]

theorem wide_N (six : Bool) : wide six = wideN six := by cases six <;> rfl
theorem bits_spec (six : Bool) (a : Addr4) (hw : a.wf) : FSpec Tryz.prog 114 [.bool six, a.av] [] (.im (.sl 1 (rowI (bitsA six a)))) [] := by
  obtain ⟨h1, h2, h3, h4⟩ := hw
  refine FSpec.of_z (q := [(2, .n 5)]) Tryz.func114 (by kernel_rfl) rfl Tryz.ntmps114 Tryz.results114 hP (by kernel_rfl) (by simp) (by first | rfl | simp) ?_
  simp
  refine CallK.same (wider_spec six) rfl rfl ?_
  simp [wide_N]
  have hW : wideN six ≤ 128 := by cases six <;> decide
  generalize hWW : wideN six = W at *
  refine ⟨by unfold maxLen; omega, ?_⟩
  have hn : a.num = a.hi.toNat * 18446744073709551616 + a.lo.toNat := rfl
  refine LoopK.os (fun k : Nat => [(5, .row 0), (6, .int .u64 (loK a.num k)), (7, .int .u64 (hiK a.num k)), (8, .int .i64 ((W : Int) - 1 - k))])
    (fun k => [.row 3 1 (rowI (bitsL W a.num k))]) (fun k => k ≤ W) (fun k => W - k) 0 [1] (Nat.zero_le _) ?_ ?_
  · have e1 : IntKind.i64.wrap ((W : Int) - 1) = W - 1 := wrap64 (by omega) (by omega)
    simp [bitsL_zero, e1, rowI, hn, loK, hiK]
    omega
  · have hV : a.num < 340282366920938463463374607431768211456 := by omega
    intro k hk
    by_cases hlt : k < W
    · have e2 : IntKind.i64.wrap ((W : Int) - 1 - k - 1) = (W : Int) - 1 - ((k + 1 : Nat) : Int) := by rw [wrap64 (by omega) (by omega)]; omega
      simp [bit_eq W a.num k hlt, hi_step _ _ hV, lo_step _ _ hV, e2]
      refine ⟨fun _ => ⟨⟨by omega, by omega⟩, by omega, ?_⟩, fun h => by omega⟩
      refine Again.os (k + 1) [0] hlt (by omega) ?_
      rw [rowI_modify _ _ (bitAt W a.num (W - 1 - k)) _ (fun y => rfl), bitsL_step _ _ _ hlt]
      simp
    · have : k = W := by omega
      subst this
      simp
      refine ⟨fun h => by omega, fun _ => ?_⟩
      refine EndZ.ret [0] _ rfl ?_
      simp [bitsA, hWW]

theorem low_bits : ∀ (n V : Nat), V % 2 ^ n = 0 ↔ ∀ i, i < n → V / 2 ^ i % 2 = 0
  | 0, V => by simp [Nat.mod_one]
  | n + 1, V => by
    have ih := low_bits n V
    have e : V % 2 ^ (n + 1) = V % 2 ^ n + 2 ^ n * (V / 2 ^ n % 2) := by rw [Nat.pow_succ]; exact Nat.mod_mul
    have hp : 0 < 2 ^ n := Nat.two_pow_pos n
    constructor
    · intro h i hi
      have h1 : V % 2 ^ n = 0 := by omega
      have h2 : V / 2 ^ n % 2 = 0 := by
        have : 2 ^ n * (V / 2 ^ n % 2) = 0 := by omega
        rcases Nat.mul_eq_zero.1 this with h | h <;> omega
      rcases Nat.lt_or_ge i n with h3 | h3
      · exact ih.1 h1 i h3
      · have : i = n := by omega
        subst this; exact h2
    · intro h
      have h1 := ih.2 fun i hi => h i (by omega)
      have h2 := h n (by omega)
      rw [e, h1, h2]; simp
theorem and_mask (x : Int) (n : Nat) (h0 : 0 ≤ x) (h1 : x < 18446744073709551616) (hn : n ≤ 64) : and64 x (2 ^ n - 1) = ((x.toNat % 2 ^ n : Nat) : Int) := by
  have hp : 0 < 2 ^ n := Nat.two_pow_pos n
  have hle : 2 ^ n ≤ 2 ^ 64 := Nat.pow_le_pow_right (by omega) hn
  have h64 : (2 : Nat) ^ 64 = 18446744073709551616 := by decide
  have hcast : ((2 : Int) ^ n) = ((2 ^ n : Nat) : Int) := by simp
  unfold and64 andI
  rw [hcast]
  have e1 : (BitVec.ofInt 64 x).toNat = x.toNat := by rw [BitVec.toNat_ofInt]; simp; omega
  have e2 : (BitVec.ofInt 64 (((2 ^ n : Nat) : Int) - 1)).toNat = 2 ^ n - 1 := by
    rw [BitVec.toNat_ofInt, Int.emod_eq_of_lt (by omega) (by rw [h64]; rw [h64] at hle; omega)]; omega
  show IntKind.u64.wrap (((BitVec.ofInt 64 x &&& BitVec.ofInt 64 (((2 ^ n : Nat) : Int) - 1)).toNat : Nat) : Int) = _
  rw [BitVec.toNat_and, e1, e2, Nat.and_two_pow_sub_one_eq_mod]
  have := Nat.mod_lt x.toNat hp
  rw [wrapU (by omega) (by rw [h64] at hle; omega)]
theorem or_zero (x y : Int) (h0 : 0 ≤ x) (h1 : x < 18446744073709551616) (h2 : 0 ≤ y) (h3 : y < 18446744073709551616) : or64 x y = 0 ↔ x = 0 ∧ y = 0 := by
  unfold or64 orI
  have e1 : (BitVec.ofInt 64 x).toNat = x.toNat := by rw [BitVec.toNat_ofInt]; simp; omega
  have e2 : (BitVec.ofInt 64 y).toNat = y.toNat := by rw [BitVec.toNat_ofInt]; simp; omega
  show IntKind.u64.wrap (((BitVec.ofInt 64 x ||| BitVec.ofInt 64 y).toNat : Nat) : Int) = 0 ↔ _
  have hb := (BitVec.ofInt 64 x ||| BitVec.ofInt 64 y).isLt
  rw [wrapU (by omega) (by omega), BitVec.toNat_or, e1, e2]
  constructor
  · intro h
    have h : x.toNat ||| y.toNat = 0 := by omega
    have := Nat.or_eq_zero_iff.1 h
    omega
  · rintro ⟨rfl, rfl⟩; rfl
theorem host_zero (p : Pfx) (hw : p.addr.wf) (h0 : 0 ≤ p.len) (h1 : p.len ≤ wide p.six) (hr : rightA p.six p.addr = true) :
    or64 (and64 p.addr.hi (host p).hi) (and64 p.addr.lo (host p).lo) = 0 ↔ p.addr.num % 2 ^ (wideN p.six - p.len.toNat) = 0 := by
  obtain ⟨a1, a2, a3, a4⟩ := hw
  rw [wide_N] at h1
  have hn : p.addr.num = p.addr.hi.toNat * 18446744073709551616 + p.addr.lo.toNat := rfl
  have hW : wideN p.six ≤ 128 := by cases p.six <;> decide
  obtain ⟨n, hnn⟩ : ∃ n, n = wideN p.six - p.len.toNat := ⟨_, rfl⟩
  have hn128 : n ≤ 128 := by omega
  have hhost : host p = ⟨2 ^ (n - 64) - 1, 2 ^ min n 64 - 1⟩ := by
    unfold host below
    rw [wide_N, show (wideN p.six : Int) - p.len = n by omega]
    by_cases c1 : (n : Int) ≥ 128
    · have : n = 128 := by omega
      subst this; rfl
    · rw [if_neg c1]
      by_cases c2 : (n : Int) ≥ 64
      · rw [if_pos c2]
        have e : min ((n : Int) - 64).toNat 64 = n - 64 := by omega
        have hp : (2 : Nat) ^ (n - 64) < 2 ^ 64 := Nat.pow_lt_pow_right (by omega) (by omega)
        have hp0 : 0 < 2 ^ (n - 64) := Nat.two_pow_pos _
        have h64 : (2 : Nat) ^ 64 = 18446744073709551616 := by decide
        have hcast : ((2 : Int) ^ (n - 64)) = ((2 ^ (n - 64) : Nat) : Int) := by simp
        rw [e, hcast, wrapU (x := ((2 ^ (n - 64) : Nat) : Int)) (by omega) (by omega), wrapU (by omega) (by omega), show min n 64 = 64 by omega]
        rfl
      · rw [if_neg c2]
        have e : min (n : Int).toNat 64 = n := by omega
        have hp : (2 : Nat) ^ n < 2 ^ 64 := Nat.pow_lt_pow_right (by omega) (by omega)
        have hp0 : 0 < 2 ^ n := Nat.two_pow_pos _
        have h64 : (2 : Nat) ^ 64 = 18446744073709551616 := by decide
        have hcast : ((2 : Int) ^ n) = ((2 ^ n : Nat) : Int) := by simp
        rw [e, hcast, wrapU (x := ((2 ^ n : Nat) : Int)) (by omega) (by omega), wrapU (by omega) (by omega), show min n 64 = n by omega, show n - 64 = 0 by omega]
        rfl
  rw [hhost, ← hnn]
  simp only
  rw [and_mask _ _ a1 a2 (by omega), and_mask _ _ a3 a4 (by omega)]
  have m1 := Nat.mod_le p.addr.hi.toNat (2 ^ (n - 64))
  have m2 := Nat.mod_le p.addr.lo.toNat (2 ^ min n 64)
  rw [or_zero _ _ (by omega) (by omega) (by omega) (by omega), hn]
  by_cases c : n ≤ 64
  · rw [show n - 64 = 0 by omega, show min n 64 = n by omega]
    have hd : (2 : Nat) ^ 64 = 2 ^ n * 2 ^ (64 - n) := by rw [← Nat.pow_add]; congr 1; omega
    have h64 : (2 : Nat) ^ 64 = 18446744073709551616 := by decide
    have : (p.addr.hi.toNat * 18446744073709551616 + p.addr.lo.toNat) % 2 ^ n = p.addr.lo.toNat % 2 ^ n := by
      rw [← h64, hd, show p.addr.hi.toNat * (2 ^ n * 2 ^ (64 - n)) = 2 ^ n * (p.addr.hi.toNat * 2 ^ (64 - n)) by rw [Nat.mul_left_comm]]
      exact Nat.mul_add_mod _ _ _
    rw [this, show p.addr.hi.toNat % 2 ^ 0 = 0 from Nat.mod_one _]
    omega
  · rw [show min n 64 = 64 by omega]
    have h64 : (2 : Nat) ^ 64 = 18446744073709551616 := by decide
    have hd : (2 : Nat) ^ n = 18446744073709551616 * 2 ^ (n - 64) := by rw [← h64, ← Nat.pow_add]; congr 1; omega
    rw [hd, Nat.mod_mul, h64]
    rw [show (p.addr.hi.toNat * 18446744073709551616 + p.addr.lo.toNat) % 18446744073709551616 = p.addr.lo.toNat by omega, show (p.addr.hi.toNat * 18446744073709551616 + p.addr.lo.toNat) / 18446744073709551616 = p.addr.hi.toNat by omega]
    omega
theorem bits_zero (p : Pfx) (h0 : 0 ≤ p.len) : (∃ j, j < wideN p.six ∧ p.len ≤ (j : Int) ∧ bitAt (wideN p.six) p.addr.num j ≠ 0) ↔ p.addr.num % 2 ^ (wideN p.six - p.len.toNat) ≠ 0 := by
  rw [Ne, low_bits]
  constructor
  · rintro ⟨j, h1, h2, h3⟩ h4
    refine h3 ?_
    unfold bitAt
    rw [h4 _ (by omega)]; rfl
  · intro h
    have : ∃ i, i < wideN p.six - p.len.toNat ∧ p.addr.num / 2 ^ i % 2 ≠ 0 := by
      apply Classical.byContradiction
      intro hc
      exact h fun i hi => Classical.byContradiction fun hc2 => hc ⟨i, hi, hc2⟩
    obtain ⟨i, hi, h1⟩ := this
    refine ⟨wideN p.six - 1 - i, by omega, by omega, ?_⟩
    unfold bitAt
    rw [show wideN p.six - 1 - (wideN p.six - 1 - i) = i by omega]
    omega
theorem rightAr_spec (six : Bool) (a : Addr4) (hw : a.wf) : FSpec Tryz.prog 71 [.bool six, a.av] [] (.bool (rightA six a)) [] := by
  obtain ⟨a1, a2, a3, a4⟩ := hw
  refine FSpec.of_flat (q := []) Tryz.func71 (by kernel_rfl) rfl Tryz.ntmps71 Tryz.results71 hP (by kernel_rfl) (by simp) (by first | rfl | simp) ?_
  have e : a.lo.fdiv 4294967296 = a.lo / 4294967296 := by rw [Int.fdiv_eq_ediv_of_nonneg _ (by omega)]
  have e2 : decide (a.lo < 4294967296) = (a.lo.fdiv (2 ^ 32) == 0) := by
    show _ = (a.lo.fdiv 4294967296 == 0)
    rw [e, Bool.eq_iff_iff]; simp; omega
  simp [rightA, e2]
  intro h; simp [h, impB]
theorem bitsA_get (six : Bool) (a : Addr4) (k : Nat) (h : k < wideN six) : (bitsA six a)[k]? = some (bitAt (wideN six) a.num k) := by
  unfold bitsA bitsL
  rw [List.getElem?_map, List.getElem?_range h]
  simp
@[simp] theorem bitsA_length (six : Bool) (a : Addr4) : (bitsA six a).length = wideN six := by simp [bitsA]
@[simp] theorem rowI_getElem (l : List Int) (k : Nat) (h : k < (rowI l).length) : (rowI l)[k] = [.sc (.int .i64 (l[k]'(by simpa using h)))] := by simp [rowI]
@[simp] theorem bitsA_getElem (six : Bool) (a : Addr4) (k : Nat) (h : k < (bitsA six a).length) : (bitsA six a)[k] = bitAt (wideN six) a.num k := by
  have := bitsA_get six a k (by simpa using h)
  rw [List.getElem?_eq_getElem h] at this
  exact Option.some.inj this
theorem rowI_get (l : List Int) (k : Nat) (x : Int) (h : l[k]? = some x) : (rowI l)[k]? = some [.sc (.int .i64 x)] := by simp [rowI, h]
theorem checkPr_spec (p : Pfx) (hw : p.addr.wf) : FSpec Tryz.prog 77 [p.av] [] (.int .i64 (checkP p)) [] := by
  refine FSpec.of_flat (q := [(1, .n 16)]) Tryz.func77 (by kernel_rfl) rfl Tryz.ntmps77 Tryz.results77 hP (by kernel_rfl) (by simp) (by first | rfl | simp) ?_
  simp
  first | refine CallK.same (wider_spec _) rfl rfl ?_ | refine CallQ.same (wider_spec _) rfl rfl ?_ | refine CallQG.same _ (wider_spec _) rfl ?_ | refine CallG.same _ (wider_spec _) rfl ?_ | refine CallK.pv (wider_spec _) rfl rfl ?_
  simp
  first | refine CallK.same (rightAr_spec p.six p.addr hw) rfl rfl ?_ | refine CallQ.same (rightAr_spec p.six p.addr hw) rfl rfl ?_ | refine CallQG.same _ (rightAr_spec p.six p.addr hw) rfl ?_ | refine CallG.same _ (rightAr_spec p.six p.addr hw) rfl ?_ | refine CallK.pv (rightAr_spec p.six p.addr hw) rfl rfl ?_
  simp
  refine ⟨?_, fun h0 h1 h2 => ?_⟩
  · rintro ((h | h) | h) <;> simp [checkP, h]
  first | refine CallK.same (bits_spec p.six p.addr hw) rfl rfl ?_ | refine CallQ.same (bits_spec p.six p.addr hw) rfl rfl ?_ | refine CallQG.same _ (bits_spec p.six p.addr hw) rfl ?_ | refine CallG.same _ (bits_spec p.six p.addr hw) rfl ?_ | refine CallK.pv (bits_spec p.six p.addr hw) rfl rfl ?_
  have hW : wideN p.six ≤ 128 := by cases p.six <;> decide
  have hz := host_zero p hw h0 h1 h2
  have hb := bits_zero p h0
  have hc : checkP p = if p.addr.num % 2 ^ (wideN p.six - p.len.toNat) = 0 then 0 else 2 := by
    unfold checkP
    rw [if_neg (by simp [h2]; omega)]
    split <;> split <;> simp_all
  simp
  refine LoopK.os (fun k : Nat => [(1, .ptr 0 0), (28, .im (.sl 1 (rowI (bitsA p.six p.addr)))), (29, .int .i64 (wideN p.six)), (30, .int .i64 k)])
    (fun _ => [.box 34 [.bool p.six, .int .u64 p.addr.hi, .int .u64 p.addr.lo, .int .i64 p.len]])
    (fun k => k ≤ wideN p.six ∧ ∀ (j : Nat), j < k → p.len ≤ (j : Int) → bitAt (wideN p.six) p.addr.num j = 0) (fun k => wideN p.six - k) 0 [0] ⟨Nat.zero_le _, fun j hj => by omega⟩ (by simp) ?_
  rintro k ⟨hk, hR⟩
  by_cases hlt : k < wideN p.six
  · have hg := rowI_get _ _ _ (bitsA_get p.six p.addr k hlt)
    have hw1 : IntKind.i64.wrap (k + 1) = (k + 1 : Nat) := wrap64 (by omega) (by omega)
    simp [hlt, hg, hw1]
    refine ⟨fun a1 a2 => ?_, fun a1 => ?_⟩
    · rw [hc, if_neg (hb.1 ⟨k, hlt, a1, a2⟩)]
    · refine Again.os (k + 1) [0] ⟨hlt, fun j hj => ?_⟩ (by omega) (by simp)
      intro b1
      rcases Nat.lt_or_ge j k with h3 | h3
      · exact hR j h3 b1
      · have : j = k := by omega
        subst this
        exact a1 b1
  · have : k = wideN p.six := by omega
    subst this
    simp
    rw [hc, if_pos]
    apply Classical.byContradiction
    intro hne
    obtain ⟨j, j1, j2, j3⟩ := hb.2 hne
    exact j3 (hR j j1 j2)
end Go.Am


set_option linter.unusedVariables false
set_option linter.unusedSimpArgs false
set_option pp.deepTerms false
set_option pp.deepTerms.threshold 40
namespace Go.Am
open Go.Proofs

def moreB (n : Int) : Int := orI .u8 (IntKind.u8.wrap n) 128
def addL : Nat → Int → List Int
  | 0, n => [IntKind.u8.wrap n]
  | f + 1, n => if 128 ≤ n then moreB n :: addL f (n.fdiv 128) else [IntKind.u8.wrap n]
def rowB (l : List Int) : List (List IV) := l.map fun x => [.sc (.int .u8 x)]
@[simp] theorem rowB_append (l m : List Int) : rowB l ++ rowB m = rowB (l ++ m) := by simp [rowB]
@[simp] theorem rowB_length (l : List Int) : (rowB l).length = l.length := by simp [rowB]
@[simp] theorem bytesOf_rowB (l : List Int) : bytesOf (rowB l) = some l := by
  induction l with
  | nil => rfl
  | cons x l ih => simp only [rowB, List.map_cons, bytesOf] at ih ⊢; rw [ih]; rfl

theorem addN_spec (l : List Int) (n : Int) (h0 : 0 ≤ n) (h1 : n ≤ 65536) (hl : l.length ≤ 1000) :
    FSpec Tryz.prog 262 [.row 0, .int .u64 n] [.row 5 1 (rowB l)] (.row 1) [.gone, .row 5 1 (rowB (l ++ addL n.toNat n))] := by
  refine FSpec.of_o (q := []) Tryz.func262 (by kernel_rfl) rfl Tryz.ntmps262 Tryz.results262 hP (by kernel_rfl) (by simp) (by first | rfl | simp) ?_
  simp
  refine LoopK.os (fun g : Bool × List Int × Int × Nat => [(0, if g.1 then .row 1 else .row 0), (1, .int .u64 g.2.2.1)])
    (fun g => if g.1 then [.gone, .row 5 1 (rowB g.2.1)] else [.row 5 1 (rowB g.2.1)])
    (fun g => 0 ≤ g.2.2.1 ∧ (g.2.1.length : Int) + g.2.2.1 ≤ 66536 ∧ g.2.2.1 ≤ g.2.2.2 ∧ g.2.1 ++ addL g.2.2.2 g.2.2.1 = l ++ addL n.toNat n) (fun g => g.2.2.1.toNat) (false, l, n, n.toNat) [0]
    ⟨h0, by simp only; omega, by simp only; omega, rfl⟩ (by simp) ?_
  rintro ⟨b, l', n', f⟩ ⟨a1, a2, a3, a4⟩
  simp only at a1 a2 a3 a4
  cases b
  all_goals
    have hfd : n'.fdiv 128 = n' / 128 := Int.fdiv_eq_ediv_of_nonneg _ (by omega)
    have hone : ∀ x, rowB l' ++ [[IV.sc (.int .u8 x)]] = rowB (l' ++ [x]) := fun x => by simp [rowB]
    simp [hone]
    refine ⟨fun hge => ⟨⟨by omega, by unfold maxLen; omega⟩, ?_⟩, fun hlt => ⟨⟨by omega, by unfold maxLen; omega⟩, ?_⟩⟩
    · cases f with
      | zero => omega
      | succ f =>
        rw [addL, if_pos hge] at a4
        have h5 : 0 ≤ (l' ++ [moreB n'], n'.fdiv 128, f).2.1 := by simp only [hfd]; omega
        have h6 : ((l' ++ [moreB n']).length : Int) + n'.fdiv 128 ≤ 66536 := by simp [hfd]; omega
        have h7 : n'.fdiv 128 ≤ (f : Int) := by rw [hfd]; omega
        have h8 : (l' ++ [moreB n']) ++ addL f (n'.fdiv 128) = l ++ addL n.toNat n := by simpa using a4
        have h9 : (n'.fdiv 128).toNat < n'.toNat := by rw [hfd]; omega
        first
          | (refine Again.os (true, l' ++ [moreB n'], n'.fdiv 128, f) [0, 2] ⟨h5, h6, h7, h8⟩ h9 ?_; simp [moreB]; done)
          | exact Again.os (true, l' ++ [moreB n'], n'.fdiv 128, f) [0, 3] ⟨h5, h6, h7, h8⟩ h9 (by simp [moreB])
    · have h5 : addL f n' = [IntKind.u8.wrap n'] := by cases f <;> simp [addL]; omega
      rw [h5] at a4
      rw [← a4]
      first
        | exact EndO.ret [] [0, 2] (.row 2) rfl (by simp)
        | exact EndO.ret [] [0, 3] (.row 3) rfl (by simp)

theorem action_spec (a : Act) (h : actOk a = true) : ∃ l, FSpec Tryz.prog 250 [.im (.sc (.slice none 0 0)), a.av] [] (.im (.sl 1 (rowB l))) [] := by
  by_cases hk : a.kind = 1
  · have hi : 0 ≤ a.iface ∧ a.iface ≤ 65536 := by simpa [actOk, hk, ifaceOk] using h
    have hw : IntKind.u64.wrap a.iface = a.iface := wrapU (by omega) (by omega)
    refine ⟨[a.kind] ++ addL a.iface.toNat a.iface, ?_⟩
    refine FSpec.of_z (q := []) Tryz.func250 (by kernel_rfl) rfl Tryz.ntmps250 Tryz.results250 hP (by kernel_rfl) (by simp) (by first | rfl | simp) ?_
    simp [hk, hw]
    refine ⟨by unfold maxLen; omega, ?_⟩
    refine CallO.mk [] [2] (addN_spec [1] a.iface hi.1 hi.2 (by simp)) (by simp) rfl (by simp) (by simp [rowB]) (by simp) ?_
    simp
    refine EndZ.ret [3] _ rfl ?_
    simp
  · refine ⟨[a.kind], ?_⟩
    refine FSpec.of_z (q := []) Tryz.func250 (by kernel_rfl) rfl Tryz.ntmps250 Tryz.results250 hP (by kernel_rfl) (by simp) (by first | rfl | simp) ?_
    simp [hk]
    refine ⟨by unfold maxLen; omega, ?_⟩
    refine EndZ.ret [2] _ rfl ?_
    simp [rowB]
theorem putAction_spec (a : Act) : ∃ s, FSpec Tryz.prog 228 [a.av] [] (.tup [.im (.sc (.string s)), .int .i64 (if actOk a then 0 else 2)]) [] := by
  cases h : actOk a with
  | false =>
    refine ⟨ByteArray.empty, ?_⟩
    refine FSpec.of_flat (q := []) Tryz.func228 (by kernel_rfl) rfl Tryz.ntmps228 Tryz.results228 hP (by kernel_rfl) (by simp) (by first | rfl | simp) ?_
    simp
    first | refine CallK.same (actOk_spec a) rfl rfl ?_ | refine CallQ.same (actOk_spec a) rfl rfl ?_ | refine CallQG.same _ (actOk_spec a) rfl ?_ | refine CallG.same _ (actOk_spec a) rfl ?_ | refine CallK.pv (actOk_spec a) rfl rfl ?_
    simp [h]
    rfl
  | true =>
    obtain ⟨l, hl⟩ := action_spec a h
    refine ⟨l.foldl (fun r n => r.push (UInt8.ofNat n.toNat)) ByteArray.empty, ?_⟩
    refine FSpec.of_flat (q := []) Tryz.func228 (by kernel_rfl) rfl Tryz.ntmps228 Tryz.results228 hP (by kernel_rfl) (by simp) (by first | rfl | simp) ?_
    simp
    first | refine CallK.same (actOk_spec a) rfl rfl ?_ | refine CallQ.same (actOk_spec a) rfl rfl ?_ | refine CallQG.same _ (actOk_spec a) rfl ?_ | refine CallG.same _ (actOk_spec a) rfl ?_ | refine CallK.pv (actOk_spec a) rfl rfl ?_
    simp [h]
    refine CallK.pv hl rfl rfl ?_
    simp

def routeOk (r : Route) : Bool := actOk r.act && checkP r.pfx == 0
theorem routeOk_spec (r : Route) : FSpec Tryz.prog 196 [r.av] [] (.bool (routeOk r)) [] := by
  obtain ⟨s, hs⟩ := putAction_spec r.act
  refine FSpec.of_flat (q := []) Tryz.func196 (by kernel_rfl) rfl Tryz.ntmps196 Tryz.results196 hP (by kernel_rfl) (by simp) (by first | rfl | simp) ?_
  simp
  refine CallK.pv hs rfl rfl ?_
  simp
  cases h : actOk r.act with
  | false =>
    simp
    first | refine CallK.same (checkP_spec r.pfx) rfl rfl ?_ | refine CallQ.same (checkP_spec r.pfx) rfl rfl ?_ | refine CallQG.same _ (checkP_spec r.pfx) rfl ?_ | refine CallG.same _ (checkP_spec r.pfx) rfl ?_ | refine CallK.pv (checkP_spec r.pfx) rfl rfl ?_
    simp [routeOk, h]
  | true =>
    simp
    first | refine CallK.same (checkP_spec r.pfx) rfl rfl ?_ | refine CallQ.same (checkP_spec r.pfx) rfl rfl ?_ | refine CallQG.same _ (checkP_spec r.pfx) rfl ?_ | refine CallG.same _ (checkP_spec r.pfx) rfl ?_ | refine CallK.pv (checkP_spec r.pfx) rfl rfl ?_
    simp [routeOk, h]
theorem routeOkr_spec (r : Route) (hw : r.pfx.addr.wf) : FSpec Tryz.prog 212 [r.av] [] (.bool (routeOk r)) [] := by
  refine FSpec.of_flat (q := []) Tryz.func212 (by kernel_rfl) rfl Tryz.ntmps212 Tryz.results212 hP (by kernel_rfl) (by simp) (by first | rfl | simp) ?_
  simp
  first | refine CallK.same (checkPr_spec r.pfx hw) rfl rfl ?_ | refine CallQ.same (checkPr_spec r.pfx hw) rfl rfl ?_ | refine CallQG.same _ (checkPr_spec r.pfx hw) rfl ?_ | refine CallG.same _ (checkPr_spec r.pfx hw) rfl ?_ | refine CallK.pv (checkPr_spec r.pfx hw) rfl rfl ?_
  simp
  first | refine CallK.same (actOkr_spec r.act) rfl rfl ?_ | refine CallQ.same (actOkr_spec r.act) rfl rfl ?_ | refine CallQG.same _ (actOkr_spec r.act) rfl ?_ | refine CallG.same _ (actOkr_spec r.act) rfl ?_ | refine CallK.pv (actOkr_spec r.act) rfl rfl ?_
  simp [routeOk, Bool.and_comm]
end Go.Am


set_option linter.unusedVariables false
set_option linter.unusedSimpArgs false
set_option pp.deepTerms false
set_option pp.deepTerms.threshold 40
namespace Go.Am
open Go.Proofs

def aheadR (pv : Option Pfx) (r : Route) : Bool := match pv with | none => true | some p => decide (cmpP p r.pfx < 0)
def checkRL : List Route → Option Pfx → Int
  | [], _ => 0
  | r :: t, pv => if !routeOk r || !aheadR pv r then 2 else checkRL t (some r.pfx)
def checkR (l : List Route) : Int := if l.length > 256 then 2 else checkRL l none
def prevR (l : List Route) (k : Nat) : Option Pfx := if k = 0 then none else (l[k - 1]?).map Route.pfx
set_option maxRecDepth 4000 in
theorem checkR_spec (l : List Route) : FSpec Tryz.prog 151 [.im (.sl 6 (l.map Route.iv))] [] (.int .i64 (checkR l)) [] := by
  refine FSpec.of_flat (q := [(6, .n 15)]) Tryz.func151 (by kernel_rfl) rfl Tryz.ntmps151 Tryz.results151 hP (by kernel_rfl) (by simp) (by first | rfl | simp) ?_
  simp [checkR]
  refine ⟨fun h h' => by omega, fun hle => ?_⟩
  refine LoopK.plain (fun k : Nat => [(0, .im (.sl 6 (l.map Route.iv))), (8, .im (.sl 6 (l.map Route.iv))), (9, .int .i64 l.length), (10, .int .i64 k)]) (fun k => k ≤ l.length ∧ checkRL (l.drop k) (prevR l k) = checkRL l none)
    (fun k => l.length - k) 0 (by simp [prevR]) (by simp) ?_
  rintro k ⟨hk, hR⟩
  by_cases hlt : k < l.length
  · have hs : l[k]? = some l[k] := List.getElem?_eq_getElem hlt
    have hw : IntKind.i64.wrap (k + 1) = (k + 1 : Nat) := wrap64 (by omega) (by omega)
    have hw1 : IntKind.i64.wrap (k - 1) = (k : Int) - 1 := wrap64 (by omega) (by omega)
    rw [List.drop_eq_getElem_cons hlt, checkRL] at hR
    simp [hlt, hs, hw]
    first | refine CallK.same (routeOk_spec l[k]) rfl rfl ?_ | refine CallQ.same (routeOk_spec l[k]) rfl rfl ?_ | refine CallQG.same _ (routeOk_spec l[k]) rfl ?_ | refine CallG.same _ (routeOk_spec l[k]) rfl ?_ | refine CallK.pv (routeOk_spec l[k]) rfl rfl ?_
    obtain ⟨y, hy, hp⟩ : ∃ y, l[k - 1]? = some y ∧ (0 < k → prevR l k = some y.pfx) := by
      refine ⟨l[k - 1]'(by omega), List.getElem?_eq_getElem (by omega), fun h => ?_⟩
      simp [prevR, show k ≠ 0 by omega, List.getElem?_eq_getElem (show k - 1 < l.length by omega)]
    have hp0 : k = 0 → prevR l k = none := by intro h; simp [prevR, h]
    simp [hw, hw1, hy]
    refine ⟨fun _ _ => ⟨by omega, by omega⟩, ?_⟩
    first | refine CallK.same (cmpP_spec y.pfx l[k].pfx) rfl rfl ?_ | refine CallQ.same (cmpP_spec y.pfx l[k].pfx) rfl rfl ?_ | refine CallQG.same _ (cmpP_spec y.pfx l[k].pfx) rfl ?_ | refine CallG.same _ (cmpP_spec y.pfx l[k].pfx) rfl ?_ | refine CallK.pv (cmpP_spec y.pfx l[k].pfx) rfl rfl ?_
    have hah : aheadR (prevR l k) l[k] = (decide (k = 0) || decide (cmpP y.pfx l[k].pfx < 0)) := by
      rcases Nat.eq_zero_or_pos k with e | e
      · rw [hp0 e]; simp [aheadR, e]
      · rw [hp e]; simp [aheadR, show k ≠ 0 by omega]
    simp [hw, hw1, hy]
    cases h1 : routeOk l[k] with
    | false =>
      simp [h1] at hR
      simp [← hR]
    | true =>
      rcases Nat.eq_zero_or_pos k with e | e
      · subst e
        simp
        refine Again.plain 1 ⟨by omega, ?_⟩ (by omega) (by simp)
        rw [hah] at hR
        simpa [h1, prevR, hs] using hR
      · have e0 : k ≠ 0 := by omega
        simp [e, impB]
        refine ⟨fun h2 => ?_, fun h2 => ?_⟩
        · rw [hah] at hR
          rw [← hR, if_pos (by simp [h1, e0]; omega)]
          omega
        · refine Again.plain (k + 1) ⟨hlt, ?_⟩ (by omega) (by simp)
          rw [hah] at hR
          rw [← hR, if_neg (by simp [h1, e0]; omega)]
          simp [prevR, hs]
  · have : k = l.length := by omega
    subst this
    simp [checkRL] at hR
    simp [← hR]
    omega

set_option maxRecDepth 4000 in
theorem checkRr_spec (l : List Route) (hwf : ∀ r ∈ l, r.pfx.addr.wf) : FSpec Tryz.prog 166 [.im (.sl 6 (l.map Route.iv))] [] (.int .i64 (checkR l)) [] := by
  refine FSpec.of_flat (q := [(6, .n 15)]) Tryz.func166 (by kernel_rfl) rfl Tryz.ntmps166 Tryz.results166 hP (by kernel_rfl) (by simp) (by first | rfl | simp) ?_
  simp [checkR]
  refine ⟨fun h h' => by omega, fun hle => ?_⟩
  refine LoopK.plain (fun k : Nat => [(0, .im (.sl 6 (l.map Route.iv))), (8, .im (.sl 6 (l.map Route.iv))), (9, .int .i64 l.length), (10, .int .i64 k)]) (fun k => k ≤ l.length ∧ checkRL (l.drop k) (prevR l k) = checkRL l none)
    (fun k => l.length - k) 0 (by simp [prevR]) (by simp) ?_
  rintro k ⟨hk, hR⟩
  by_cases hlt : k < l.length
  · have hs : l[k]? = some l[k] := List.getElem?_eq_getElem hlt
    have hw : IntKind.i64.wrap (k + 1) = (k + 1 : Nat) := wrap64 (by omega) (by omega)
    have hw1 : IntKind.i64.wrap (k - 1) = (k : Int) - 1 := wrap64 (by omega) (by omega)
    rw [List.drop_eq_getElem_cons hlt, checkRL] at hR
    simp [hlt, hs, hw]
    first | refine CallK.same (routeOkr_spec l[k] (hwf _ (List.getElem_mem hlt))) rfl rfl ?_ | refine CallQ.same (routeOkr_spec l[k] (hwf _ (List.getElem_mem hlt))) rfl rfl ?_ | refine CallQG.same _ (routeOkr_spec l[k] (hwf _ (List.getElem_mem hlt))) rfl ?_ | refine CallG.same _ (routeOkr_spec l[k] (hwf _ (List.getElem_mem hlt))) rfl ?_ | refine CallK.pv (routeOkr_spec l[k] (hwf _ (List.getElem_mem hlt))) rfl rfl ?_
    obtain ⟨y, hy, hp⟩ : ∃ y, l[k - 1]? = some y ∧ (0 < k → prevR l k = some y.pfx) := by
      refine ⟨l[k - 1]'(by omega), List.getElem?_eq_getElem (by omega), fun h => ?_⟩
      simp [prevR, show k ≠ 0 by omega, List.getElem?_eq_getElem (show k - 1 < l.length by omega)]
    have hp0 : k = 0 → prevR l k = none := by intro h; simp [prevR, h]
    simp [hw, hw1, hy]
    refine ⟨fun _ _ => ⟨by omega, by omega⟩, ?_⟩
    first | refine CallK.same (lessP_spec y.pfx l[k].pfx) rfl rfl ?_ | refine CallQ.same (lessP_spec y.pfx l[k].pfx) rfl rfl ?_ | refine CallQG.same _ (lessP_spec y.pfx l[k].pfx) rfl ?_ | refine CallG.same _ (lessP_spec y.pfx l[k].pfx) rfl ?_ | refine CallK.pv (lessP_spec y.pfx l[k].pfx) rfl rfl ?_
    have hah : aheadR (prevR l k) l[k] = (decide (k = 0) || decide (cmpP y.pfx l[k].pfx < 0)) := by
      rcases Nat.eq_zero_or_pos k with e | e
      · rw [hp0 e]; simp [aheadR, e]
      · rw [hp e]; simp [aheadR, show k ≠ 0 by omega]
    simp [hw, hw1, hy]
    cases h1 : routeOk l[k] with
    | false =>
      simp [h1] at hR
      simp [← hR]
    | true =>
      rcases Nat.eq_zero_or_pos k with e | e
      · subst e
        simp
        refine Again.plain 1 ⟨by omega, ?_⟩ (by omega) (by simp)
        rw [hah] at hR
        simpa [h1, prevR, hs] using hR
      · have e0 : k ≠ 0 := by omega
        simp [e, impB]
        refine ⟨fun h2 => ?_, fun h2 => ?_⟩
        · rw [hah] at hR
          rw [← hR, if_pos (by simp [h1, e0]; omega)]
          omega
        · refine Again.plain (k + 1) ⟨hlt, ?_⟩ (by omega) (by simp)
          rw [hah] at hR
          rw [← hR, if_neg (by simp [h1, e0]; omega)]
          simp [prevR, hs]
  · have : k = l.length := by omega
    subst this
    simp [checkRL] at hR
    simp [← hR]
    omega
end Go.Am


set_option linter.unusedVariables false
set_option linter.unusedSimpArgs false
set_option pp.deepTerms false
set_option pp.deepTerms.threshold 40
namespace Go.Am
open Go.Proofs

@[simp] def Router.av (r : Router) : AV := .agg [.int .i64 r.id, .bool r.up, .im (.sl 6 (r.routes.map Route.iv)), .im (.sl 2 (r.links.map Link.iv))]
def routerOk (r : Router) : Bool := idOk r.id && (r.up || (r.routes.isEmpty && r.links.isEmpty)) && checkR r.routes == 0 && checkL r.links == 0
def Router.wf (r : Router) : Prop := ∀ x ∈ r.routes, x.pfx.addr.wf
theorem checkR_len {l : List Route} (h : checkR l = 0) : l.length ≤ 256 := by
  unfold checkR at h
  split at h
  · cases h
  · omega
theorem checkL_len {l : List Link} (h : checkL l = 0) : l.length ≤ 32 := by
  unfold checkL at h
  split at h
  · cases h
  · omega
theorem up_sum (r : Router) (hu : r.up = false) (h : 0 < IntKind.i64.wrap ((r.routes.length : Int) + r.links.length)) : routerOk r = false := by
  unfold routerOk
  have : ¬ (r.routes.isEmpty = true ∧ r.links.isEmpty = true) := by
    rintro ⟨h1, h2⟩
    rw [List.isEmpty_iff] at h1 h2
    rw [h1, h2] at h
    simp [IntKind.wrap, IntKind.bits, IntKind.signed] at h
  cases h1 : r.routes.isEmpty <;> cases h2 : r.links.isEmpty <;> simp_all
theorem up_sum0 (r : Router) (hu : r.up = false → IntKind.i64.wrap ((r.routes.length : Int) + r.links.length) ≤ 0) (hi : idOk r.id = true) (hr : checkR r.routes = 0) (hl : checkL r.links = 0) : routerOk r = true := by
  have h1 := checkR_len hr
  have h2 := checkL_len hl
  rw [wrap64 (by omega) (by omega)] at hu
  unfold routerOk
  simp only [hi, hr, hl, Bool.true_and, beq_self_eq_true, Bool.and_true]
  cases hup : r.up with
  | true => rfl
  | false =>
    have := hu hup
    have e1 : r.routes = [] := List.eq_nil_of_length_eq_zero (by omega)
    have e2 : r.links = [] := List.eq_nil_of_length_eq_zero (by omega)
    simp [e1, e2]
theorem checkF_spec (r : Router) : FSpec Tryz.prog 122 [r.av] [] (.int .i64 (if routerOk r then 0 else 2)) [] := by
  refine FSpec.of_flat (q := []) Tryz.func122 (by kernel_rfl) rfl Tryz.ntmps122 Tryz.results122 hP (by kernel_rfl) (by simp) (by first | rfl | simp) ?_
  simp
  first | refine CallK.same (idOk_spec r.id) rfl rfl ?_ | refine CallQ.same (idOk_spec r.id) rfl rfl ?_ | refine CallQG.same _ (idOk_spec r.id) rfl ?_ | refine CallG.same _ (idOk_spec r.id) rfl ?_ | refine CallK.pv (idOk_spec r.id) rfl rfl ?_
  simp
  refine ⟨fun h => by simp [h], ?_, fun hi hu => ?_⟩
  · rintro (h | ⟨h1, h2⟩)
    · simp [routerOk, h]
    · exact up_sum r h1 h2
  first | refine CallK.same (checkR_spec r.routes) rfl rfl ?_ | refine CallQ.same (checkR_spec r.routes) rfl rfl ?_ | refine CallQG.same _ (checkR_spec r.routes) rfl ?_ | refine CallG.same _ (checkR_spec r.routes) rfl ?_ | refine CallK.pv (checkR_spec r.routes) rfl rfl ?_
  simp
  first | refine CallK.same (checkL_spec r.links) rfl rfl ?_ | refine CallQ.same (checkL_spec r.links) rfl rfl ?_ | refine CallQG.same _ (checkL_spec r.links) rfl ?_ | refine CallG.same _ (checkL_spec r.links) rfl ?_ | refine CallK.pv (checkL_spec r.links) rfl rfl ?_
  simp
  refine ⟨fun h => ?_, fun h1 h2 => up_sum0 r hu hi h1 h2⟩
  simp [routerOk]
  intro _ _ h1
  simpa [h1] using h
theorem checkFr_spec (r : Router) (hw : r.wf) : FSpec Tryz.prog 131 [r.av] [] (.int .i64 (if routerOk r then 0 else 2)) [] := by
  refine FSpec.of_flat (q := []) Tryz.func131 (by kernel_rfl) rfl Tryz.ntmps131 Tryz.results131 hP (by kernel_rfl) (by simp) (by first | rfl | simp) ?_
  simp
  first | refine CallK.same (checkRr_spec r.routes hw) rfl rfl ?_ | refine CallQ.same (checkRr_spec r.routes hw) rfl rfl ?_ | refine CallQG.same _ (checkRr_spec r.routes hw) rfl ?_ | refine CallG.same _ (checkRr_spec r.routes hw) rfl ?_ | refine CallK.pv (checkRr_spec r.routes hw) rfl rfl ?_
  simp
  first | refine CallK.same (checkLr_spec r.links) rfl rfl ?_ | refine CallQ.same (checkLr_spec r.links) rfl rfl ?_ | refine CallQG.same _ (checkLr_spec r.links) rfl ?_ | refine CallG.same _ (checkLr_spec r.links) rfl ?_ | refine CallK.pv (checkLr_spec r.links) rfl rfl ?_
  simp
  refine ⟨fun h => ?_, fun h1 h2 h3 h4 => ⟨fun h5 h6 => up_sum r h5 h6, fun h5 => up_sum0 r h5 (by simp [idOk, h1, h2]) h3 h4⟩⟩
  simp [routerOk, idOk]
  intro a b c d e
  rcases h with (h | h) | h <;> first | omega | exact absurd d h | exact absurd e h
end Go.Am


set_option linter.unusedVariables false
set_option linter.unusedSimpArgs false
set_option pp.deepTerms false
set_option pp.deepTerms.threshold 40
namespace Go.Am
open Go.Proofs

structure Net where
  seats : List Seat
  routers : List Router
@[simp] def Net.av (n : Net) : AV := .agg [.im (.sl 4 (n.seats.map Seat.iv)), .im (.sl 4 (n.routers.map Router.iv))]
def Net.wf (n : Net) : Prop := ∀ r ∈ n.routers, r.wf
def zipOk : List Router → List Seat → Bool
  | [], [] => true
  | r :: l, s :: t => routerOk r && r.id == s.router && r.up == s.up && zipOk l t
  | _, _ => false
def netOk (n : Net) : Bool := checkS n.seats == 0 && n.routers.length == n.seats.length && zipOk n.routers n.seats && decide (many n.routers 0 ≤ 1024)
theorem checkS_len {l : List Seat} (h : checkS l = 0) : l.length ≤ 64 := by
  unfold checkS at h
  split at h
  · cases h
  · omega
theorem checkN_spec (n : Net) : FSpec Tryz.prog 83 [n.av] [] (.int .i64 (if netOk n then 0 else 2)) [] := by
  refine FSpec.of_flat (q := []) Tryz.func83 (by kernel_rfl) rfl Tryz.ntmps83 Tryz.results83 hP (by kernel_rfl) (by simp) (by first | rfl | simp) ?_
  simp
  first | refine CallK.same (checkS_spec n.seats) rfl rfl ?_ | refine CallQ.same (checkS_spec n.seats) rfl rfl ?_ | refine CallQG.same _ (checkS_spec n.seats) rfl ?_ | refine CallG.same _ (checkS_spec n.seats) rfl ?_ | refine CallK.pv (checkS_spec n.seats) rfl rfl ?_
  simp
  first | refine CallK.same (total_spec n.routers) rfl rfl ?_ | refine CallQ.same (total_spec n.routers) rfl rfl ?_ | refine CallQG.same _ (total_spec n.routers) rfl ?_ | refine CallG.same _ (total_spec n.routers) rfl ?_ | refine CallK.pv (total_spec n.routers) rfl rfl ?_
  simp
  refine ⟨?_, fun h1 h2 h3 => ?_⟩
  · rintro ((h | h) | h)
    · simp [netOk, h]
    · simp [netOk]; intro _ _; omega
    · simp [netOk]; intro _ _ _; omega
  have hlen := checkS_len h1
  refine LoopK.os (fun k : Nat => [(1, .ptr 0 0), (26, .im (.sl 4 (n.routers.map Router.iv))), (27, .int .i64 n.routers.length), (28, .int .i64 k)])
    (fun _ => [.box 25 [.im (.sl 4 (n.seats.map Seat.iv)), .im (.sl 4 (n.routers.map Router.iv))]])
    (fun k => k ≤ n.routers.length ∧ zipOk (n.routers.drop k) (n.seats.drop k) = zipOk n.routers n.seats) (fun k => n.routers.length - k) 0 [0] ⟨Nat.zero_le _, rfl⟩ (by simp) ?_
  rintro k ⟨hk, hR⟩
  by_cases hlt : k < n.routers.length
  · have hs : n.routers[k]? = some n.routers[k] := List.getElem?_eq_getElem hlt
    have hlt2 : k < n.seats.length := by omega
    have hs2 : n.seats[k]? = some n.seats[k] := List.getElem?_eq_getElem hlt2
    have hw : IntKind.i64.wrap (k + 1) = (k + 1 : Nat) := wrap64 (by omega) (by omega)
    rw [List.drop_eq_getElem_cons hlt, List.drop_eq_getElem_cons hlt2, zipOk] at hR
    simp [hlt, hlt2, hs, hs2, hw]
    first | refine CallK.same (checkF_spec n.routers[k]) rfl rfl ?_ | refine CallQ.same (checkF_spec n.routers[k]) rfl rfl ?_ | refine CallQG.same _ (checkF_spec n.routers[k]) rfl ?_ | refine CallG.same _ (checkF_spec n.routers[k]) rfl ?_ | refine CallK.pv (checkF_spec n.routers[k]) rfl rfl ?_
    simp [hw, hs2, hlt2]
    refine ⟨fun h => ?_, fun h1 h2 h3 => ?_⟩
    · have hz : zipOk n.routers n.seats = false := by
        rw [← hR]
        rcases h with (h | h) | h
        · simp [h]
        · simp [h]
        · simp [h]
      simp [netOk, hz]
    · refine Again.os (k + 1) [0] ⟨hlt, ?_⟩ (by omega) ?_
      · rw [← hR]; simp [h1, h2, h3]
      · simp
  · have : k = n.routers.length := by omega
    subst this
    have hz : zipOk n.routers n.seats = true := by
      rw [← hR, List.drop_of_length_le (by omega), List.drop_of_length_le (by omega)]; rfl
    simp [netOk, h1, hz]
    omega
theorem checkNr_spec (n : Net) (hwf : n.wf) : FSpec Tryz.prog 93 [n.av] [] (.int .i64 (if netOk n then 0 else 2)) [] := by
  refine FSpec.of_flat (q := [(6, .n 23)]) Tryz.func93 (by kernel_rfl) rfl Tryz.ntmps93 Tryz.results93 hP (by kernel_rfl) (by simp) (by first | rfl | simp) ?_
  simp
  first | refine CallK.same (checkSr_spec n.seats) rfl rfl ?_ | refine CallQ.same (checkSr_spec n.seats) rfl rfl ?_ | refine CallQG.same _ (checkSr_spec n.seats) rfl ?_ | refine CallG.same _ (checkSr_spec n.seats) rfl ?_ | refine CallK.pv (checkSr_spec n.seats) rfl rfl ?_
  simp
  refine ⟨?_, fun h1 h2 => ?_⟩
  · rintro (h | h)
    · simp [netOk, h]
    · simp [netOk]; intro _ _; omega
  have hlen := checkS_len h1
  refine LoopK.os (fun k : Nat => [(1, .ptr 0 0), (19, .im (.sl 4 (n.routers.map Router.iv))), (20, .int .i64 n.routers.length), (21, .int .i64 k)])
    (fun _ => [.box 25 [.im (.sl 4 (n.seats.map Seat.iv)), .im (.sl 4 (n.routers.map Router.iv))]])
    (fun k => k ≤ n.routers.length ∧ zipOk (n.routers.drop k) (n.seats.drop k) = zipOk n.routers n.seats) (fun k => n.routers.length - k) 0 [0] ⟨Nat.zero_le _, rfl⟩ (by simp) ?_
  rintro k ⟨hk, hR⟩
  by_cases hlt : k < n.routers.length
  · have hs : n.routers[k]? = some n.routers[k] := List.getElem?_eq_getElem hlt
    have hlt2 : k < n.seats.length := by omega
    have hs2 : n.seats[k]? = some n.seats[k] := List.getElem?_eq_getElem hlt2
    have hw : IntKind.i64.wrap (k + 1) = (k + 1 : Nat) := wrap64 (by omega) (by omega)
    rw [List.drop_eq_getElem_cons hlt, List.drop_eq_getElem_cons hlt2, zipOk] at hR
    simp [hlt, hlt2, hs, hs2, hw]
    first | refine CallK.same (checkFr_spec n.routers[k] (hwf _ (List.getElem_mem hlt))) rfl rfl ?_ | refine CallQ.same (checkFr_spec n.routers[k] (hwf _ (List.getElem_mem hlt))) rfl rfl ?_ | refine CallQG.same _ (checkFr_spec n.routers[k] (hwf _ (List.getElem_mem hlt))) rfl ?_ | refine CallG.same _ (checkFr_spec n.routers[k] (hwf _ (List.getElem_mem hlt))) rfl ?_ | refine CallK.pv (checkFr_spec n.routers[k] (hwf _ (List.getElem_mem hlt))) rfl rfl ?_
    simp [hw, hs2, hlt2]
    refine ⟨fun h => ?_, fun h1 h2 h3 => ?_⟩
    · have hz : zipOk n.routers n.seats = false := by
        rw [← hR]
        rcases h with (h | h) | h
        · simp [h]
        · simp [h]
        · simp [h]
      simp [netOk, hz]
    · refine Again.os (k + 1) [0] ⟨hlt, ?_⟩ (by omega) ?_
      · rw [← hR]; simp [h1, h2, h3]
      · simp
  · have : k = n.routers.length := by omega
    subst this
    have hz : zipOk n.routers n.seats = true := by
      rw [← hR, List.drop_of_length_le (by omega), List.drop_of_length_le (by omega)]; rfl
    simp
    first | refine CallK.same (manyr_spec n.routers) rfl rfl ?_ | refine CallQ.same (manyr_spec n.routers) rfl rfl ?_ | refine CallQG.same _ (manyr_spec n.routers) rfl ?_ | refine CallG.same _ (manyr_spec n.routers) rfl ?_ | refine CallK.pv (manyr_spec n.routers) rfl rfl ?_
    simp [netOk, h1, hz]
    refine ⟨fun a b => a, fun a => ⟨by omega, a⟩⟩
end Go.Am


set_option linter.unusedVariables false
set_option linter.unusedSimpArgs false
set_option pp.deepTerms false
set_option pp.deepTerms.threshold 40
namespace Go.Am
open Go.Proofs

end Go.Am


set_option linter.unusedVariables false
set_option linter.unusedSimpArgs false
set_option pp.deepTerms false
set_option pp.deepTerms.threshold 40
namespace Go.Am
open Go.Proofs

inductive Ent where
  | nd (p : List Nat) (v : Option Nat)
  | rt (r : Route)
  | pb (p : Pfx)
def Ent.isAt (p : List Nat) : Ent → Bool
  | .nd q _ => q == p
  | _ => false
def ix (T : List Ent) (p : List Nat) : Option Nat := T.findIdx? (Ent.isAt p)
def ptrO : Option Nat → AV
  | none => .im (.sc (.pointer none))
  | some k => .ptr k 0
def ndCells (T : List Ent) (p : List Nat) (v : Option Nat) : List AV := [ptrO v, ptrO (ix T (p ++ [0])), ptrO (ix T (p ++ [1]))]
def Ent.ob (six : Bool) (T : List Ent) (i : Nat) : Ent → AObj
  | .nd p v => if i = 0 then .box 255 (.bool six :: ndCells T p v) else .box 253 (ndCells T p v)
  | .rt r => .box 117 (r.iv.map .im)
  | .pb p => .box 34 [.bool p.six, .int .u64 p.addr.hi, .int .u64 p.addr.lo, .int .i64 p.len]
def obs (six : Bool) (T : List Ent) : List AObj := T.mapIdx (Ent.ob six T)
@[simp] theorem obs_length (six : Bool) (T : List Ent) : (obs six T).length = T.length := by simp [obs]
theorem obs_get (six : Bool) (T : List Ent) (i : Nat) : (obs six T)[i]? = T[i]?.map (Ent.ob six T i) := by simp [obs]
@[simp] theorem obs_noSv (six : Bool) (T : List Ent) : (obs six T).all AObj.noSv = true := by
  rw [List.all_eq_true]
  intro x hx
  obtain ⟨i, hi, rfl⟩ := List.mem_iff_getElem.1 hx
  have h := obs_get six T i
  rw [List.getElem?_eq_getElem hi] at h
  have hi' : i < T.length := by simpa using hi
  rw [List.getElem?_eq_getElem hi'] at h
  rw [Option.some.inj h]
  cases T[i] <;> simp only [Ent.ob] <;> (try split) <;> rfl
structure WT (T : List Ent) : Prop where
  root : ∃ v, T[0]? = some (.nd [] v)
  uniq : ∀ {i j : Nat} {p : List Nat} {v v' : Option Nat}, T[i]? = some (.nd p v) → T[j]? = some (.nd p v') → i = j
  pre : ∀ {i : Nat} {p : List Nat} {b : Nat} {v : Option Nat}, T[i]? = some (.nd (p ++ [b]) v) → ∃ (j : Nat) (v' : Option Nat), T[j]? = some (.nd p v')
  val : ∀ {i : Nat} {p : List Nat} {j : Nat}, T[i]? = some (.nd p (some j)) → ∃ r, T[j]? = some (.rt r)
theorem ix_some {T : List Ent} {p : List Nat} {k : Nat} (h : ix T p = some k) : ∃ v, T[k]? = some (.nd p v) := by
  obtain ⟨hk, h1, _⟩ := List.findIdx?_eq_some_iff_getElem.1 h
  rw [List.getElem?_eq_getElem hk]
  generalize T[k] = e at *
  cases e <;> simp [Ent.isAt] at h1
  subst h1
  exact ⟨_, rfl⟩
theorem ix_none {T : List Ent} {p : List Nat} (h : ix T p = none) (k : Nat) (v : Option Nat) : T[k]? ≠ some (.nd p v) := by
  intro hk
  have := List.findIdx?_eq_none_iff.1 h _ (List.mem_of_getElem? hk)
  simp [Ent.isAt] at this
theorem WT.ix {T : List Ent} (h : WT T) {p : List Nat} {k : Nat} {v : Option Nat} (hk : T[k]? = some (.nd p v)) : ix T p = some k := by
  cases hi : Go.Am.ix T p with
  | none => exact absurd hk (ix_none hi k v)
  | some j =>
    obtain ⟨v', h1⟩ := ix_some hi
    rw [h.uniq h1 hk]
theorem get_push1 {α : Type} (l : List α) (x : α) (i : Nat) : (l ++ [x])[i]? = if i < l.length then l[i]? else if i = l.length then some x else none := by
  by_cases h : i < l.length
  · simp [h, List.getElem?_append]
  · rw [List.getElem?_append_right (by omega), if_neg h]
    by_cases h1 : i = l.length
    · simp [h1]
    · rw [if_neg h1, List.getElem?_eq_none]
      simp; omega
theorem WT.new {T : List Ent} (h : WT T) {p : List Nat} {b k : Nat} {v : Option Nat} (hk : T[k]? = some (.nd p v)) (hn : Go.Am.ix T (p ++ [b]) = none) : WT (T ++ [.nd (p ++ [b]) none]) := by
  have hg : ∀ {i : Nat} {q : List Nat} {v : Option Nat}, (T ++ [Ent.nd (p ++ [b]) none])[i]? = some (.nd q v) ↔ T[i]? = some (.nd q v) ∨ (i = T.length ∧ q = p ++ [b] ∧ v = none) := by
    intro i q v
    rw [get_push1]
    by_cases h1 : i < T.length
    · simp [h1]; omega
    · rw [if_neg h1, List.getElem?_eq_none (l := T) (by omega)]
      by_cases h2 : i = T.length
      · simp [h2, eq_comm]
      · simp [h2]
  refine ⟨?_, ?_, ?_, ?_⟩
  · obtain ⟨v, hv⟩ := h.root
    exact ⟨v, hg.2 (.inl hv)⟩
  · intro i j q v v' h1 h2
    rcases hg.1 h1 with h1 | ⟨h1, h3, h4⟩ <;> rcases hg.1 h2 with h2 | ⟨h2, h5, h6⟩
    · exact h.uniq h1 h2
    · subst h5; exact absurd h1 (ix_none hn i v)
    · subst h3; exact absurd h2 (ix_none hn j v')
    · omega
  · intro i q b' v h1
    rcases hg.1 h1 with h1 | ⟨h1, h3, h4⟩
    · obtain ⟨j, v', h2⟩ := h.pre h1
      exact ⟨j, v', hg.2 (.inl h2)⟩
    · obtain ⟨rfl, _⟩ := List.append_inj' h3 rfl
      exact ⟨k, _, hg.2 (.inl hk)⟩
  · intro i q j h1
    rcases hg.1 h1 with h1 | ⟨h1, h3, h4⟩
    · obtain ⟨r', h2⟩ := h.val h1
      refine ⟨r', ?_⟩
      rw [get_push1, if_pos (List.getElem?_eq_some_iff.1 h2).1]; exact h2
    · cases h4

theorem WT.set {T : List Ent} (h : WT T) {k : Nat} {p : List Nat} {v : Option Nat} {j : Nat} {r : Route} (hk : T[k]? = some (.nd p v)) (hj : T[j]? = some (.rt r)) : WT (T.set k (.nd p (some j))) := by
  have hlt := (List.getElem?_eq_some_iff.1 hk).1
  have hg : ∀ {i : Nat} {q : List Nat} {w : Option Nat}, (T.set k (.nd p (some j)))[i]? = some (.nd q w) → ∃ w', T[i]? = some (.nd q w') ∧ (w = w' ∨ w = some j) := by
    intro i q w h1
    rw [List.getElem?_set] at h1
    split at h1
    · rename_i h2; subst h2
      simp [hlt] at h1
      obtain ⟨rfl, rfl⟩ := h1
      exact ⟨v, hk, .inr rfl⟩
    · exact ⟨w, h1, .inl rfl⟩
  have hg2 : ∀ {i : Nat} {q : List Nat} {w : Option Nat}, T[i]? = some (.nd q w) → ∃ w', (T.set k (.nd p (some j)))[i]? = some (.nd q w') := by
    intro i q w h1
    rw [List.getElem?_set]
    split
    · rename_i h2; subst h2
      rw [hk] at h1
      cases h1
      exact ⟨some j, by simp [hlt]⟩
    · exact ⟨w, h1⟩
  have hg3 : ∀ {i : Nat} {r' : Route}, T[i]? = some (.rt r') → (T.set k (.nd p (some j)))[i]? = some (.rt r') := by
    intro i r' h1
    rw [List.getElem?_set]
    split
    · rename_i h2; subst h2; rw [hk] at h1; cases h1
    · exact h1
  refine ⟨?_, ?_, ?_, ?_⟩
  · obtain ⟨v, hv⟩ := h.root
    exact hg2 hv
  · intro i j q v v' h1 h2
    obtain ⟨_, h1, _⟩ := hg h1
    obtain ⟨_, h2, _⟩ := hg h2
    exact h.uniq h1 h2
  · intro i q b v h1
    obtain ⟨_, h1, _⟩ := hg h1
    obtain ⟨m, w, h2⟩ := h.pre h1
    obtain ⟨w', h3⟩ := hg2 h2
    exact ⟨m, w', h3⟩
  · intro i q m h1
    obtain ⟨w, h1, h2⟩ := hg h1
    rcases h2 with h2 | h2
    · subst h2
      obtain ⟨r', h3⟩ := h.val h1
      exact ⟨r', hg3 h3⟩
    · cases h2
      exact ⟨r, hg3 hj⟩

end Go.Am


set_option linter.unusedVariables false
set_option linter.unusedSimpArgs false
set_option pp.deepTerms false
set_option pp.deepTerms.threshold 40
namespace Go.Am
open Go.Proofs

theorem get_left {α : Type} {l l' : List α} {i : Nat} {x : α} (h : l[i]? = some x) : (l ++ l')[i]? = some x := by
  rw [List.getElem?_append_left (List.getElem?_eq_some_iff.1 h).1]; exact h
end Go.Am


set_option linter.unusedVariables false
set_option linter.unusedSimpArgs false
set_option pp.deepTerms false
set_option pp.deepTerms.threshold 40
namespace Go.Am
open Go.Proofs

structure Ext (U V : List Ent) : Prop where
  old : ∀ {i : Nat} {e : Ent}, U[i]? = some e → V[i]? = some e
  new : ∀ {i : Nat} {e : Ent}, U.length ≤ i → V[i]? = some e → ∀ q v, e = .nd q v → v = none
theorem Ext.refl (U : List Ent) : Ext U U := ⟨fun h => h, fun h1 h2 => by rw [List.getElem?_eq_none (by omega)] at h2; cases h2⟩
theorem Ext.trans {U V W : List Ent} (h1 : Ext U V) (h2 : Ext V W) : Ext U W := by
  refine ⟨fun h => h2.old (h1.old h), fun {i e} hi he => ?_⟩
  rcases Nat.lt_or_ge i V.length with h | h
  · have h3 := h2.old (List.getElem?_eq_getElem h)
    rw [he] at h3
    cases h3
    exact h1.new hi (List.getElem?_eq_getElem h)
  · exact h2.new h he
theorem Ext.push (U : List Ent) (q : List Nat) : Ext U (U ++ [.nd q none]) := by
  refine ⟨get_left, fun {i e} hi he => ?_⟩
  rw [get_push1, if_neg (by omega)] at he
  split at he
  · cases he
    intro q v e; cases e; rfl
  · cases he
theorem WT.one : WT [.nd [] none] := by
  refine ⟨⟨none, rfl⟩, ?_, ?_, ?_⟩
  · intro i j p v v' h1 h2
    have h3 := (List.getElem?_eq_some_iff.1 h1).1
    have h4 := (List.getElem?_eq_some_iff.1 h2).1
    simp at h3 h4; omega
  · intro i p b v h1
    have h3 := (List.getElem?_eq_some_iff.1 h1).1
    simp at h3
    subst h3
    simp at h1
  · intro i p j h1
    have h3 := (List.getElem?_eq_some_iff.1 h1).1
    simp at h3
    subst h3
    simp at h1
end Go.Am


set_option linter.unusedVariables false
set_option linter.unusedSimpArgs false
set_option pp.deepTerms false
set_option pp.deepTerms.threshold 40
namespace Go.Am
open Go.Proofs

theorem Ext.len {U V : List Ent} (h : Ext U V) : U.length ≤ V.length := by
  apply Classical.byContradiction
  intro hc
  have h1 := h.old (List.getElem?_eq_getElem (l := U) (show U.length - 1 < U.length by omega))
  have := (List.getElem?_eq_some_iff.1 h1).1
  omega
end Go.Am


set_option linter.unusedVariables false
set_option linter.unusedSimpArgs false
set_option pp.deepTerms false
set_option pp.deepTerms.threshold 40
namespace Go.Am
open Go.Proofs

def rcO : Option Route → List AV
  | none => [.bool false, .int .u64 0, .int .u64 0, .int .i64 0, .int .u8 0, .int .i64 0]
  | some r => r.iv.map .im
@[simp] theorem rcO_length (x : Option Route) : (rcO x).length = 6 := by cases x <;> rfl
@[simp] theorem rcO_take (x : Option Route) : (rcO x).take 6 = rcO x := by cases x <;> rfl
@[simp] theorem rcO_drop (x : Option Route) : (rcO x).drop 6 = [] := by cases x <;> rfl
theorem endRd_normal {a : Go.Act} {b : Nat} {r : Loop} {szI : Nat} {k : Bool → St → Prop} {f : List (Nat × AV)} {o : List (Nat × AObj)} {n sz : Nat} {g : Option Bool} {frI : List (Nat × AV)} (n3 n2 : Nat) (h3 : look o n3 = some (.sv a frI)) (h2 : look o n2 = some (.lp b r .busy none))
    (hk : k true ⟨frI, (n2, .lp b r .ready none) :: o, n, szI, g⟩) : endRd a b r szI k .normal ⟨f, o, n, sz, g⟩ :=
  ⟨n3, frI, n2, h3, h2, hk⟩
end Go.Am


set_option linter.unusedVariables false
set_option linter.unusedSimpArgs false
set_option pp.deepTerms false
set_option pp.deepTerms.threshold 40
namespace Go.Am
open Go.Proofs

def sameBits (six : Bool) (a b : Addr4) (n : Nat) : Bool := (List.range n).all fun i => bitAt (wideN six) a.num i == bitAt (wideN six) b.num i
theorem checkP_len {p : Pfx} (h : checkP p = 0) : 0 ≤ p.len ∧ p.len ≤ wideN p.six ∧ rightA p.six p.addr = true := by
  unfold checkP at h
  split at h
  · cases h
  · rename_i h1
    simp at h1
    rw [wide_N] at h1
    exact ⟨h1.1.1, h1.1.2, h1.2⟩
@[simp] theorem rcO_pure (x : Option Route) : AV.pureL (rcO x) = true := by cases x <;> rfl
end Go.Am


set_option linter.unusedVariables false
set_option linter.unusedSimpArgs false
set_option pp.deepTerms false
set_option pp.deepTerms.threshold 40
namespace Go.Am
open Go.Proofs

theorem cmpP_iff (p q : Pfx) : cmpP p q < 0 ↔ kindP p < kindP q ∨ kindP p = kindP q ∧ (p.addr.hi < q.addr.hi ∨ p.addr.hi = q.addr.hi ∧ (p.addr.lo < q.addr.lo ∨ p.addr.lo = q.addr.lo ∧ p.len < q.len)) := by
  simp only [cmpP, cmpA, orInt, cmpI]
  repeat' split
  all_goals omega
theorem checkRL_sorted : ∀ {l : List Route} {pv : Option Pfx}, checkRL l pv = 0 → (∀ r ∈ l, routeOk r = true) ∧ (∀ p, pv = some p → ∀ r ∈ l, cmpP p r.pfx < 0) ∧ l.Pairwise fun r s => cmpP r.pfx s.pfx < 0
  | [], pv, h => ⟨fun r hr => (by cases hr), fun p _ r hr => (by cases hr), List.Pairwise.nil⟩
  | r :: l, pv, h => by
    rw [checkRL] at h
    split at h
    · cases h
    · rename_i hc
      simp only [Bool.or_eq_true, Bool.not_eq_true', not_or, Bool.not_eq_false] at hc
      obtain ⟨h1, h2, h3⟩ := checkRL_sorted h
      refine ⟨fun s hs => ?_, fun p hp s hs => ?_, List.Pairwise.cons (fun s hs => h2 _ rfl s hs) h3⟩
      · rcases List.mem_cons.1 hs with rfl | hs
        · exact hc.1
        · exact h1 s hs
      · subst hp
        have h4 : cmpP p r.pfx < 0 := by simpa [aheadR] using hc.2
        rcases List.mem_cons.1 hs with rfl | hs
        · exact h4
        · have h5 := h2 _ rfl s hs
          rw [cmpP_iff] at h4 h5 ⊢
          omega
theorem Addr4.num_inj {a b : Addr4} (ha : a.wf) (hb : b.wf) (h : a.num = b.num) : a = b := by
  obtain ⟨a1, a2, a3, a4⟩ := ha
  obtain ⟨b1, b2, b3, b4⟩ := hb
  cases a; cases b
  simp only [Addr4.num, Addr4.mk.injEq] at *
  omega
theorem Addr4.num_lt {six : Bool} {a : Addr4} (ha : a.wf) (hr : rightA six a = true) : a.num < 2 ^ wideN six := by
  obtain ⟨a1, a2, a3, a4⟩ := ha
  cases six with
  | true =>
    show a.num < 340282366920938463463374607431768211456
    unfold Addr4.num; omega
  | false =>
    show a.num < 4294967296
    unfold rightA at hr
    simp at hr
    obtain ⟨h1, h2⟩ := hr
    have h2 : a.lo / 4294967296 = 0 := by
      rw [← Int.fdiv_eq_ediv_of_nonneg _ (by omega)]; exact h2
    unfold Addr4.num; omega
theorem checkP_host {p : Pfx} (hw : p.addr.wf) (h : checkP p = 0) : p.addr.num % 2 ^ (wideN p.six - p.len.toNat) = 0 := by
  obtain ⟨l0, l1, l2⟩ := checkP_len h
  rw [← wide_N] at l1
  rw [← host_zero p hw l0 l1 l2]
  unfold checkP at h
  split at h
  · cases h
  · split at h
    · cases h
    · rename_i h2; simpa using h2
end Go.Am


set_option linter.unusedVariables false
set_option linter.unusedSimpArgs false
set_option pp.deepTerms false
set_option pp.deepTerms.threshold 40
namespace Go.Am
open Go.Proofs

theorem half_eq (lo hi : Nat) (h1 : lo ≤ 9223372036854775807) (h2 : hi ≤ 9223372036854775807) : IntKind.i64.wrap ((IntKind.u64.wrap (IntKind.i64.wrap ((lo : Int) + hi))).fdiv 2) = ((lo + hi) / 2 : Nat) := by
  have e : IntKind.u64.wrap (IntKind.i64.wrap ((lo : Int) + hi)) = (lo : Int) + hi := by
    simp [IntKind.wrap, IntKind.signed, IntKind.bits]
    omega
  rw [e, Int.fdiv_eq_ediv_of_nonneg _ (by omega), wrap64 (by omega) (by omega)]
  omega
/-- Where a first one that is not below stands. -/
def bsI {α : Type} (c : α → Int) : List α → Nat
  | [] => 0
  | x :: l => if c x < 0 then bsI c l + 1 else 0
def bsF {α : Type} (c : α → Int) (l : List α) : Bool := ((l[bsI c l]?).map fun x => decide (c x = 0)).getD false
theorem bsI_le {α : Type} (c : α → Int) : ∀ l : List α, bsI c l ≤ l.length
  | [] => Nat.le_refl _
  | x :: l => by
    rw [bsI]
    have := bsI_le c l
    split <;> simp <;> omega
theorem bsI_eq {α : Type} (c : α → Int) : ∀ (l : List α) (k : Nat), k ≤ l.length → (∀ i x, i < k → l[i]? = some x → c x < 0) → (∀ i x, k ≤ i → l[i]? = some x → ¬ c x < 0) → bsI c l = k
  | [], k, hk, _, _ => by simp at hk; rw [hk]; rfl
  | x :: l, 0, hk, h1, h2 => by
    rw [bsI, if_neg (h2 0 x (Nat.le_refl _) rfl)]
  | x :: l, k + 1, hk, h1, h2 => by
    rw [bsI, if_pos (h1 0 x (by omega) rfl), bsI_eq c l k (by simpa using hk) (fun i y hi hy => h1 (i + 1) y (by omega) (by simpa using hy)) (fun i y hi hy => h2 (i + 1) y (by omega) (by simpa using hy))]

def cmpL (n : Int) (x : Link) : Int := cmpI x.iface n
theorem cmpL_spec (x : Link) (n : Int) : FSpec Tryz.prog 233 [x.av, .int .i64 n] [] (.int .i64 (cmpL n x)) [] := by
  refine FSpec.of_flat (q := []) Tryz.func233 (by kernel_rfl) rfl Tryz.ntmps233 Tryz.results233 hP (by kernel_rfl) (by simp) (by first | rfl | simp) ?_
  simp
  first | refine CallK.same (cmpI_spec x.iface n) rfl rfl ?_ | refine CallQ.same (cmpI_spec x.iface n) rfl rfl ?_ | refine CallQG.same _ (cmpI_spec x.iface n) rfl ?_ | refine CallG.same _ (cmpI_spec x.iface n) rfl ?_ | refine CallK.pv (cmpI_spec x.iface n) rfl rfl ?_
  simp [cmpL]
def upL (c : Link → Int) (l : List Link) : Prop := ∀ (i j : Nat) (x y : Link), i ≤ j → l[i]? = some x → l[j]? = some y → (c y < 0 → c x < 0)
theorem bsL_spec (l : List Link) (n : Int) (hs : upL (cmpL n) l) :
    FSpec Tryz.prog 232 [.im (.sl 2 (l.map Link.iv)), .int .i64 n, .fn 233 []] [] (.tup [.int .i64 (bsI (cmpL n) l), .bool (bsF (cmpL n) l)]) [] := by
  refine FSpec.bd (enters_of Tryz.func232 (by kernel_rfl) rfl) fun hbd => ?_
  have hl : l.length ≤ 9223372036854775807 := by simp [maxLen] at hbd; omega
  refine FSpec.of_flat (q := []) Tryz.func232 (by kernel_rfl) rfl Tryz.ntmps232 Tryz.results232 hP (by kernel_rfl) (by simp) (by first | rfl | simp) ?_
  simp
  refine LoopK.plain (fun g : Nat × Nat => [(0, .im (.sl 2 (l.map Link.iv))), (1, .int .i64 n), (2, .fn 233 []), (8, .int .i64 l.length), (9, .int .i64 g.1), (10, .int .i64 g.2)])
    (fun g => g.1 ≤ g.2 ∧ g.2 ≤ l.length ∧ (∀ i x, i < g.1 → l[i]? = some x → cmpL n x < 0) ∧ (∀ i x, g.2 ≤ i → l[i]? = some x → 0 ≤ cmpL n x)) (fun g => g.2 - g.1) (0, l.length) ?_ ?_ ?_
  · exact ⟨Nat.zero_le _, Nat.le_refl _, fun i x hi => by omega, fun i x hi hx => by rw [List.getElem?_eq_none hi] at hx; cases hx⟩
  · simp
  rintro ⟨lo, hi⟩ ⟨h1, h2, h3, h4⟩
  simp only at h1 h2 h3 h4
  by_cases hlt : lo < hi
  · have hm := half_eq lo hi (by omega) (by omega)
    have hml : (lo + hi) / 2 < l.length := by omega
    obtain ⟨m, hmm⟩ : ∃ m, m = (lo + hi) / 2 := ⟨_, rfl⟩
    rw [← hmm] at hm hml
    have hg := List.getElem?_eq_getElem hml
    have hw1 : IntKind.i64.wrap (m + 1) = (m + 1 : Nat) := wrap64 (by omega) (by omega)
    simp [hlt, hm, hml, hg]
    generalize l[m] = x at *
    first | refine CallK.same (cmpL_spec x n) rfl rfl ?_ | refine CallQ.same (cmpL_spec x n) rfl rfl ?_ | refine CallQG.same _ (cmpL_spec x n) rfl ?_ | refine CallG.same _ (cmpL_spec x n) rfl ?_ | refine CallK.pv (cmpL_spec x n) rfl rfl ?_
    simp [hw1]
    refine ⟨fun hc => ?_, fun hc => ?_⟩
    · refine Again.plain (m + 1, hi) ⟨by omega, h2, fun i y hi' hy => ?_, h4⟩ (by simp only; omega) (by simp)
      exact hs i m y x (by omega) hy hg hc
    · refine Again.plain (lo, m) ⟨by omega, by omega, h3, fun i y hi' hy => ?_⟩ (by simp only; omega) (by simp)
      apply Classical.byContradiction
      intro hc'
      have := hs m i x y hi' hg hy (by omega)
      omega
  · have : lo = hi := by omega
    subst this
    have hb := bsI_eq (cmpL n) l lo h2 h3 (fun i x h5 h6 => by have := h4 i x h5 h6; omega)
    by_cases hll : lo < l.length
    · have hg := List.getElem?_eq_getElem hll
      simp [hll]
      generalize l[lo] = x at *
      first | refine CallK.same (cmpL_spec x n) rfl rfl ?_ | refine CallQ.same (cmpL_spec x n) rfl rfl ?_ | refine CallQG.same _ (cmpL_spec x n) rfl ?_ | refine CallG.same _ (cmpL_spec x n) rfl ?_ | refine CallK.pv (cmpL_spec x n) rfl rfl ?_
      simp [bsF, hb, hg]
      rfl
    · simp [hll, List.getElem?_eq_none (show l.length ≤ lo by omega)]
      refine CallG.off (.int .i64 0) ?_
      simp [bsF, hb, List.getElem?_eq_none (show l.length ≤ lo by omega)]
end Go.Am


set_option linter.unusedVariables false
set_option linter.unusedSimpArgs false
set_option pp.deepTerms false
set_option pp.deepTerms.threshold 40
namespace Go.Am
open Go.Proofs

theorem cmpL_neg (n : Int) (x : Link) : cmpL n x < 0 ↔ x.iface < n := by
  unfold cmpL cmpI
  repeat' split
  all_goals omega
theorem cmpL_zero (n : Int) (x : Link) : cmpL n x = 0 ↔ x.iface = n := by
  unfold cmpL cmpI
  repeat' split
  all_goals omega
theorem checkLL_sorted : ∀ {l : List Link} {ah : Int}, checkLL l ah = 0 → (∀ x ∈ l, ah < x.iface) ∧ l.Pairwise fun x y => x.iface < y.iface
  | [], ah, h => ⟨fun x hx => (by cases hx), List.Pairwise.nil⟩
  | x :: l, ah, h => by
    rw [checkLL] at h
    split at h
    · cases h
    · rename_i hc
      simp at hc
      obtain ⟨h1, h2⟩ := checkLL_sorted h
      refine ⟨fun y hy => ?_, List.Pairwise.cons h1 h2⟩
      rcases List.mem_cons.1 hy with rfl | hy
      · exact hc.2
      · have := h1 y hy; omega
theorem checkL_sorted {l : List Link} (h : checkL l = 0) : l.Pairwise fun x y => x.iface < y.iface := by
  unfold checkL at h
  split at h
  · cases h
  · exact (checkLL_sorted h).2
theorem findL_spec (l : List Link) (n : Int) (hs : upL (cmpL n) l) :
    FSpec Tryz.prog 202 [.im (.sl 2 (l.map Link.iv)), .int .i64 n] [] (.tup [.int .i64 (bsI (cmpL n) l), .bool (bsF (cmpL n) l)]) [] := by
  refine FSpec.of_flat (q := []) Tryz.func202 (by kernel_rfl) rfl Tryz.ntmps202 Tryz.results202 hP (by kernel_rfl) (by simp) (by first | rfl | simp) ?_
  simp
  first | refine CallK.same (bsL_spec l n hs) rfl rfl ?_ | refine CallQ.same (bsL_spec l n hs) rfl rfl ?_ | refine CallQG.same _ (bsL_spec l n hs) rfl ?_ | refine CallG.same _ (bsL_spec l n hs) rfl ?_ | refine CallK.pv (bsL_spec l n hs) rfl rfl ?_
  simp
theorem bsF_lt {α : Type} {c : α → Int} {l : List α} (h : bsF c l = true) : ∃ x, l[bsI c l]? = some x := by
  unfold bsF at h
  cases hx : l[bsI c l]? with
  | none => rw [hx] at h; cases h
  | some x => exact ⟨x, rfl⟩
end Go.Am


set_option linter.unusedVariables false
set_option linter.unusedSimpArgs false
set_option pp.deepTerms false
set_option pp.deepTerms.threshold 40
namespace Go.Am
open Go.Proofs

structure Hop where
  kind : Int
  peer : Int
@[simp] def Hop.av (h : Hop) : AV := .agg [.int .u8 h.kind, .int .i64 h.peer]
end Go.Am


set_option linter.unusedVariables false
set_option linter.unusedSimpArgs false
set_option pp.deepTerms false
set_option pp.deepTerms.threshold 40
namespace Go.Am
open Go.Proofs

def cmpT (n : Int) (x : Router) : Int := cmpI x.id n
theorem cmpT_spec (x : Router) (n : Int) : FSpec Tryz.prog 154 [x.av, .int .i64 n] [] (.int .i64 (cmpT n x)) [] := by
  refine FSpec.of_flat (q := []) Tryz.func154 (by kernel_rfl) rfl Tryz.ntmps154 Tryz.results154 hP (by kernel_rfl) (by simp) (by first | rfl | simp) ?_
  simp
  first | refine CallK.same (cmpI_spec x.id n) rfl rfl ?_ | refine CallQ.same (cmpI_spec x.id n) rfl rfl ?_ | refine CallQG.same _ (cmpI_spec x.id n) rfl ?_ | refine CallG.same _ (cmpI_spec x.id n) rfl ?_ | refine CallK.pv (cmpI_spec x.id n) rfl rfl ?_
  simp [cmpT]
def upT (c : Router → Int) (l : List Router) : Prop := ∀ (i j : Nat) (x y : Router), i ≤ j → l[i]? = some x → l[j]? = some y → (c y < 0 → c x < 0)
theorem bsT_spec (l : List Router) (n : Int) (hs : upT (cmpT n) l) :
    FSpec Tryz.prog 153 [.im (.sl 4 (l.map Router.iv)), .int .i64 n, .fn 154 []] [] (.tup [.int .i64 (bsI (cmpT n) l), .bool (bsF (cmpT n) l)]) [] := by
  refine FSpec.bd (enters_of Tryz.func153 (by kernel_rfl) rfl) fun hbd => ?_
  have hl : l.length ≤ 9223372036854775807 := by simp [maxLen] at hbd; omega
  refine FSpec.of_flat (q := []) Tryz.func153 (by kernel_rfl) rfl Tryz.ntmps153 Tryz.results153 hP (by kernel_rfl) (by simp) (by first | rfl | simp) ?_
  simp
  refine LoopK.plain (fun g : Nat × Nat => [(0, .im (.sl 4 (l.map Router.iv))), (1, .int .i64 n), (2, .fn 154 []), (8, .int .i64 l.length), (9, .int .i64 g.1), (10, .int .i64 g.2)])
    (fun g => g.1 ≤ g.2 ∧ g.2 ≤ l.length ∧ (∀ i x, i < g.1 → l[i]? = some x → cmpT n x < 0) ∧ (∀ i x, g.2 ≤ i → l[i]? = some x → 0 ≤ cmpT n x)) (fun g => g.2 - g.1) (0, l.length) ?_ ?_ ?_
  · exact ⟨Nat.zero_le _, Nat.le_refl _, fun i x hi => by omega, fun i x hi hx => by rw [List.getElem?_eq_none hi] at hx; cases hx⟩
  · simp
  rintro ⟨lo, hi⟩ ⟨h1, h2, h3, h4⟩
  simp only at h1 h2 h3 h4
  by_cases hlt : lo < hi
  · have hm := half_eq lo hi (by omega) (by omega)
    have hml : (lo + hi) / 2 < l.length := by omega
    obtain ⟨m, hmm⟩ : ∃ m, m = (lo + hi) / 2 := ⟨_, rfl⟩
    rw [← hmm] at hm hml
    have hg := List.getElem?_eq_getElem hml
    have hw1 : IntKind.i64.wrap (m + 1) = (m + 1 : Nat) := wrap64 (by omega) (by omega)
    simp [hlt, hm, hml, hg]
    generalize l[m] = x at *
    first | refine CallK.same (cmpT_spec x n) rfl rfl ?_ | refine CallQ.same (cmpT_spec x n) rfl rfl ?_ | refine CallQG.same _ (cmpT_spec x n) rfl ?_ | refine CallG.same _ (cmpT_spec x n) rfl ?_ | refine CallK.pv (cmpT_spec x n) rfl rfl ?_
    simp [hw1]
    refine ⟨fun hc => ?_, fun hc => ?_⟩
    · refine Again.plain (m + 1, hi) ⟨by omega, h2, fun i y hi' hy => ?_, h4⟩ (by simp only; omega) (by simp)
      exact hs i m y x (by omega) hy hg hc
    · refine Again.plain (lo, m) ⟨by omega, by omega, h3, fun i y hi' hy => ?_⟩ (by simp only; omega) (by simp)
      apply Classical.byContradiction
      intro hc'
      have := hs m i x y hi' hg hy (by omega)
      omega
  · have : lo = hi := by omega
    subst this
    have hb := bsI_eq (cmpT n) l lo h2 h3 (fun i x h5 h6 => by have := h4 i x h5 h6; omega)
    by_cases hll : lo < l.length
    · have hg := List.getElem?_eq_getElem hll
      simp [hll]
      generalize l[lo] = x at *
      first | refine CallK.same (cmpT_spec x n) rfl rfl ?_ | refine CallQ.same (cmpT_spec x n) rfl rfl ?_ | refine CallQG.same _ (cmpT_spec x n) rfl ?_ | refine CallG.same _ (cmpT_spec x n) rfl ?_ | refine CallK.pv (cmpT_spec x n) rfl rfl ?_
      simp [bsF, hb, hg]
      rfl
    · simp [hll, List.getElem?_eq_none (show l.length ≤ lo by omega)]
      refine CallG.off (.int .i64 0) ?_
      simp [bsF, hb, List.getElem?_eq_none (show l.length ≤ lo by omega)]
end Go.Am


set_option linter.unusedVariables false
set_option linter.unusedSimpArgs false
set_option pp.deepTerms false
set_option pp.deepTerms.threshold 40
namespace Go.Am
open Go.Proofs

theorem checkSL_sorted : ∀ {l : List Seat} {ah : Int}, checkSL l ah = 0 → (∀ x ∈ l, ah < x.router) ∧ l.Pairwise fun x y => x.router < y.router
  | [], ah, h => ⟨fun x hx => (by cases hx), List.Pairwise.nil⟩
  | x :: l, ah, h => by
    rw [checkSL] at h
    split at h
    · cases h
    · rename_i hc
      simp at hc
      obtain ⟨h1, h2⟩ := checkSL_sorted h
      refine ⟨fun y hy => ?_, List.Pairwise.cons h1 h2⟩
      rcases List.mem_cons.1 hy with rfl | hy
      · exact hc.2
      · have := h1 y hy; omega
theorem zipOk_map : ∀ {l : List Router} {t : List Seat}, zipOk l t = true → l.map Router.id = t.map Seat.router ∧ ∀ r ∈ l, routerOk r = true
  | [], [], _ => ⟨rfl, fun r hr => (by cases hr)⟩
  | r :: l, s :: t, h => by
    simp [zipOk] at h
    obtain ⟨⟨⟨h1, h2⟩, h3⟩, h4⟩ := h
    obtain ⟨g1, g2⟩ := zipOk_map h4
    refine ⟨by simp [h2, g1], fun x hx => ?_⟩
    rcases List.mem_cons.1 hx with rfl | hx
    · exact h1
    · exact g2 x hx
  | [], _ :: _, h => by simp [zipOk] at h
  | _ :: _, [], h => by simp [zipOk] at h
theorem netOk_routers {n : Net} (h : netOk n = true) : (n.routers.Pairwise fun x y => x.id < y.id) ∧ ∀ r ∈ n.routers, routerOk r = true := by
  unfold netOk at h
  simp only [Bool.and_eq_true, beq_iff_eq] at h
  obtain ⟨⟨⟨h1, h2⟩, h3⟩, h4⟩ := h
  obtain ⟨g1, g2⟩ := zipOk_map h3
  refine ⟨?_, g2⟩
  have : (n.seats.map Seat.router).Pairwise (· < ·) := by
    unfold checkS at h1
    split at h1
    · cases h1
    · rw [List.pairwise_map]; exact (checkSL_sorted h1).2
  rw [← g1, List.pairwise_map] at this
  exact this
theorem cmpT_neg (n : Int) (x : Router) : cmpT n x < 0 ↔ x.id < n := by
  unfold cmpT cmpI
  repeat' split
  all_goals omega
theorem cmpT_zero (n : Int) (x : Router) : cmpT n x = 0 ↔ x.id = n := by
  unfold cmpT cmpI
  repeat' split
  all_goals omega
theorem upT_of {l : List Router} (h : l.Pairwise fun x y => x.id < y.id) (n : Int) : upT (cmpT n) l := by
  intro i j x y hij hx hy hc
  rw [cmpT_neg] at hc ⊢
  rcases Nat.eq_or_lt_of_le hij with e | hlt
  · subst e; rw [hx] at hy; cases hy; exact hc
  · obtain ⟨hi, e1⟩ := List.getElem?_eq_some_iff.1 hx
    obtain ⟨hj, e2⟩ := List.getElem?_eq_some_iff.1 hy
    have := List.pairwise_iff_getElem.1 h i j hi hj hlt
    rw [e1, e2] at this
    omega
def routerF (l : List Router) (n : Int) : Option Router := l.find? fun x => decide (x.id = n)
theorem routerF_bs : ∀ {l : List Router} {n : Int}, (l.Pairwise fun x y => x.id < y.id) → routerF l n = if bsF (cmpT n) l then l[bsI (cmpT n) l]? else none
  | [], n, h => rfl
  | x :: l, n, h => by
    have ih := routerF_bs (n := n) (List.Pairwise.of_cons h)
    unfold routerF bsF at *
    rw [bsI, List.find?_cons]
    by_cases h1 : x.id < n
    · have e1 : cmpT n x < 0 := (cmpT_neg n x).2 h1
      have e2 : decide (x.id = n) = false := by simp; omega
      simp only [e1, if_true, e2, List.getElem?_cons_succ]
      exact ih
    · have e1 : ¬ cmpT n x < 0 := fun h => h1 ((cmpT_neg n x).1 h)
      simp only [e1, if_false, List.getElem?_cons_zero]
      by_cases h2 : x.id = n
      · have := (cmpT_zero n x).2 h2
        simp [h2, this]
      · have h3 : ¬ cmpT n x = 0 := fun h => h2 ((cmpT_zero n x).1 h)
        have hno : l.find? (fun x => decide (x.id = n)) = none := by
          rw [List.find?_eq_none]
          intro y hy
          have := List.rel_of_pairwise_cons h hy
          simp; omega
        simp [h2, h3, hno]
set_option maxRecDepth 4000 in
theorem findr_spec (n : Net) (x : Int) : FSpec Tryz.prog 134 [n.av, .int .i64 x] [] (.tup [((routerF n.routers x).getD ⟨0, false, [], []⟩).av, .bool (routerF n.routers x).isSome]) [] := by
  refine FSpec.bd (enters_of Tryz.func134 (by kernel_rfl) rfl) fun hbd => ?_
  have hl : n.routers.length ≤ 9223372036854775807 := by simp [maxLen] at hbd; exact hbd.2.1
  refine FSpec.of_z (q := []) Tryz.func134 (by kernel_rfl) rfl Tryz.ntmps134 Tryz.results134 hP (by kernel_rfl) (by simp) (by first | rfl | simp) ?_
  simp
  refine LoopK.os (fun k : Nat => [(1, .int .i64 x), (4, .ptr 0 0), (9, .im (.sl 4 (n.routers.map Router.iv))), (10, .int .i64 n.routers.length), (11, .int .i64 k)])
    (fun _ => [.box 85 [.int .i64 0, .bool false, .im (.sc (.slice none 0 0)), .im (.sc (.slice none 0 0))]])
    (fun k => k ≤ n.routers.length ∧ (n.routers.drop k).find? (fun y => decide (y.id = x)) = n.routers.find? (fun y => decide (y.id = x))) (fun k => n.routers.length - k) 0 [1] ⟨Nat.zero_le _, by simp⟩ (by simp) ?_
  rintro k ⟨hk, hR⟩
  by_cases hlt : k < n.routers.length
  · have e1 : IntKind.i64.wrap (k + 1) = (k + 1 : Nat) := wrap64 (by omega) (by omega)
    rw [List.drop_eq_getElem_cons hlt, List.find?_cons] at hR
    simp [hlt, e1]
    generalize n.routers[k] = y at *
    refine ⟨fun hy => ?_, fun hy => ?_⟩
    · have : routerF n.routers x = some y := by
        unfold routerF
        rw [← hR]; simp [hy]
      simp only [this]
      refine EndZ.ret [] (.tup [y.av, .bool true]) (by simp) (by simp)
    · refine Again.os (k + 1) [0] ⟨hlt, ?_⟩ (by omega) (by simp)
      rw [← hR]; simp [hy]
  · have : k = n.routers.length := by omega
    subst this
    simp at hR
    have : routerF n.routers x = none := by
      unfold routerF
      rw [← hR]
    simp only [this]
    simp
    refine EndZ.ret [] (.tup [.agg [.int .i64 0, .bool false, .im (.sc (.slice none 0 0)), .im (.sc (.slice none 0 0))], .bool false]) (by simp) (by simp)
end Go.Am


set_option linter.unusedVariables false
set_option linter.unusedSimpArgs false
set_option pp.deepTerms false
set_option pp.deepTerms.threshold 40
namespace Go.Am
open Go.Proofs

theorem netOk_len {n : Net} (h : netOk n = true) : n.routers.length ≤ 64 := by
  unfold netOk at h
  simp only [Bool.and_eq_true, beq_iff_eq] at h
  have := checkS_len h.1.1.1
  omega
theorem modL {α : Type} : ∀ (A : List α) (x : α) (B : List α) (f : α → α), (A ++ x :: B).modify A.length f = A ++ f x :: B
  | [], x, B, f => rfl
  | a :: A, x, B, f => by
    have := modL A x B f
    simp only [List.cons_append, List.length_cons, List.modify_succ_cons]
    rw [this]
end Go.Am


set_option linter.unusedVariables false
set_option linter.unusedSimpArgs false
set_option pp.deepTerms false
set_option pp.deepTerms.threshold 40
namespace Go.Am
open Go.Proofs

structure Ev where
  kind : Int
  router : Int
  seq : Int
  time : Int
  pfx : Pfx
  act : Act
  iface : Int
  peer : Int
@[simp] def Ev.iv (e : Ev) : List IV := [.sc (.int .u8 e.kind), .sc (.int .i64 e.router), .sc (.int .u64 e.seq), .sc (.int .i64 e.time), .sc (.bool e.pfx.six), .sc (.int .u64 e.pfx.addr.hi), .sc (.int .u64 e.pfx.addr.lo), .sc (.int .i64 e.pfx.len), .sc (.int .u8 e.act.kind), .sc (.int .i64 e.act.iface), .sc (.int .i64 e.iface), .sc (.int .i64 e.peer)]
@[simp] def Ev.av (e : Ev) : AV := .agg (e.iv.map .im)
end Go.Am


set_option linter.unusedVariables false
set_option linter.unusedSimpArgs false
set_option pp.deepTerms false
set_option pp.deepTerms.threshold 40
namespace Go.Am
open Go.Proofs

theorem idM_spec (n : Int) : FSpec Tryz.prog 235 [.int .i64 n] [] (.bool (idOk n)) [] := by
  refine FSpec.of_flat (q := []) Tryz.func235 (by kernel_rfl) rfl Tryz.ntmps235 Tryz.results235 hP (by kernel_rfl) (by simp) (by first | rfl | simp) ?_
  simp [idOk]
def headOk (e : Ev) : Bool := idOk e.router && decide (1 ≤ e.seq) && decide (e.seq ≤ 1099511627776) && decide (0 ≤ e.time) && decide (e.time ≤ 1099511627776)
def pfx0 (p : Pfx) : Bool := !p.six && p.addr.hi == 0 && p.addr.lo == 0 && p.len == 0
def act0 (a : Act) : Bool := a.kind == 0 && a.iface == 0
def tailOk (e : Ev) : Bool :=
  if e.kind = 1 ∨ e.kind = 2 then pfx0 e.pfx && act0 e.act && e.iface == 0 && e.peer == 0
  else if e.kind = 3 then checkP e.pfx == 0 && actOk e.act && e.iface == 0 && e.peer == 0
  else if e.kind = 4 then checkP e.pfx == 0 && act0 e.act && e.iface == 0 && e.peer == 0
  else if e.kind = 5 then ifaceOk e.iface && idOk e.peer && pfx0 e.pfx && act0 e.act
  else if e.kind = 6 then ifaceOk e.iface && e.peer == 0 && pfx0 e.pfx && act0 e.act
  else false
def evOk (e : Ev) : Bool := headOk e && tailOk e
theorem evOk_head {e : Ev} (h : headOk e = true) : evOk e = tailOk e := by simp [evOk, h]
theorem head_bad {e : Ev} (hs : 0 ≤ e.seq) (h : (((idOk e.router = false ∨ e.seq = 0) ∨ 1099511627776 < e.seq) ∨ e.time < 0) ∨ 1099511627776 < e.time) : evOk e = false := by
  have : headOk e = false := by
    unfold headOk
    rcases h with (((h | h) | h) | h) | h
    · simp [h]
    · simp [h]
    · simp [show ¬ e.seq ≤ 1099511627776 by omega]
    · simp [show ¬ 0 ≤ e.time by omega]
    · simp [show ¬ e.time ≤ 1099511627776 by omega]
  simp [evOk, this]
theorem head_good {e : Ev} (hs : 0 ≤ e.seq) (h1 : idOk e.router = true) (h2 : ¬ e.seq = 0) (h3 : e.seq ≤ 1099511627776) (h4 : 0 ≤ e.time) (h5 : e.time ≤ 1099511627776) : evOk e = tailOk e :=
  evOk_head (by unfold headOk; simp [h1, h3, h4, h5, show 1 ≤ e.seq by omega])
theorem kinds_of (k : Int) : k = 1 ∨ k = 2 ∨ k = 3 ∨ k = 4 ∨ k = 5 ∨ k = 6 ∨ (¬ k = 1 ∧ ¬ k = 2 ∧ ¬ k = 3 ∧ ¬ k = 4 ∧ ¬ k = 5 ∧ ¬ k = 6) := by omega
set_option maxRecDepth 8000 in
set_option maxHeartbeats 2000000 in
theorem evOk_spec (e : Ev) (hs : 0 ≤ e.seq) : FSpec Tryz.prog 207 [e.av] [] (.int .i64 (if evOk e then 0 else 2)) [] := by
  refine FSpec.of_flat (q := []) Tryz.func207 (by kernel_rfl) rfl Tryz.ntmps207 Tryz.results207 hP (by kernel_rfl) (by simp) (by first | rfl | simp) ?_
  simp -implicitDefEqProofs
  first | refine CallK.same (idM_spec e.router) rfl rfl ?_ | refine CallQ.same (idM_spec e.router) rfl rfl ?_ | refine CallQG.same _ (idM_spec e.router) rfl ?_ | refine CallG.same _ (idM_spec e.router) rfl ?_ | refine CallK.pv (idM_spec e.router) rfl rfl ?_
  rcases kinds_of e.kind with hk | hk | hk | hk | hk | hk | ⟨k1, k2, k3, k4, k5, k6⟩
  · simp -implicitDefEqProofs [hk]
    refine ⟨head_bad hs, fun h1 h2 h3 h4 h5 => ?_⟩
    rw [head_good hs h1 h2 h3 h4 h5]
    have ht : tailOk e = (pfx0 e.pfx && act0 e.act && e.iface == 0 && e.peer == 0) := by simp [tailOk, hk]
    rw [ht]
    refine ⟨fun h => ?_, fun a b c d f g i j => ?_⟩
    · unfold pfx0 act0
      grind
    · simp [pfx0, act0, *]
  · simp -implicitDefEqProofs [hk]
    refine ⟨head_bad hs, fun h1 h2 h3 h4 h5 => ?_⟩
    rw [head_good hs h1 h2 h3 h4 h5]
    have ht : tailOk e = (pfx0 e.pfx && act0 e.act && e.iface == 0 && e.peer == 0) := by simp [tailOk, hk]
    rw [ht]
    refine ⟨fun h => ?_, fun a b c d f g i j => ?_⟩
    · unfold pfx0 act0
      grind
    · simp [pfx0, act0, *]
  · simp -implicitDefEqProofs [hk]
    refine ⟨head_bad hs, fun h1 h2 h3 h4 h5 => ?_⟩
    have he := head_good hs h1 h2 h3 h4 h5
    have ht : tailOk e = (checkP e.pfx == 0 && actOk e.act && e.iface == 0 && e.peer == 0) := by simp [tailOk, hk]
    rw [ht] at he
    first | refine CallK.same (actOk_spec e.act) rfl rfl ?_ | refine CallQ.same (actOk_spec e.act) rfl rfl ?_ | refine CallQG.same _ (actOk_spec e.act) rfl ?_ | refine CallG.same _ (actOk_spec e.act) rfl ?_ | refine CallK.pv (actOk_spec e.act) rfl rfl ?_
    simp -implicitDefEqProofs
    first | refine CallK.same (checkP_spec e.pfx) rfl rfl ?_ | refine CallQ.same (checkP_spec e.pfx) rfl rfl ?_ | refine CallQG.same _ (checkP_spec e.pfx) rfl ?_ | refine CallG.same _ (checkP_spec e.pfx) rfl ?_ | refine CallK.pv (checkP_spec e.pfx) rfl rfl ?_
    simp -implicitDefEqProofs [he]
    generalize checkP e.pfx = c
    generalize actOk e.act = ao
    try simp only [pfx0, act0]
    grind
  · simp -implicitDefEqProofs [hk]
    refine ⟨head_bad hs, fun h1 h2 h3 h4 h5 => ?_⟩
    have he := head_good hs h1 h2 h3 h4 h5
    have ht : tailOk e = (checkP e.pfx == 0 && act0 e.act && e.iface == 0 && e.peer == 0) := by simp [tailOk, hk]
    rw [ht] at he
    first | refine CallK.same (checkP_spec e.pfx) rfl rfl ?_ | refine CallQ.same (checkP_spec e.pfx) rfl rfl ?_ | refine CallQG.same _ (checkP_spec e.pfx) rfl ?_ | refine CallG.same _ (checkP_spec e.pfx) rfl ?_ | refine CallK.pv (checkP_spec e.pfx) rfl rfl ?_
    simp -implicitDefEqProofs [he]
    generalize checkP e.pfx = c
    try simp only [pfx0, act0]
    grind
  · simp -implicitDefEqProofs [hk]
    refine ⟨head_bad hs, fun h1 h2 h3 h4 h5 => ?_⟩
    have he := head_good hs h1 h2 h3 h4 h5
    have ht : tailOk e = (ifaceOk e.iface && idOk e.peer && pfx0 e.pfx && act0 e.act) := by simp [tailOk, hk]
    rw [ht] at he
    first | refine CallK.same (idM_spec e.peer) rfl rfl ?_ | refine CallQ.same (idM_spec e.peer) rfl rfl ?_ | refine CallQG.same _ (idM_spec e.peer) rfl ?_ | refine CallG.same _ (idM_spec e.peer) rfl ?_ | refine CallK.pv (idM_spec e.peer) rfl rfl ?_
    simp -implicitDefEqProofs
    first | refine CallK.same (ifaceOk_spec e.iface) rfl rfl ?_ | refine CallQ.same (ifaceOk_spec e.iface) rfl rfl ?_ | refine CallQG.same _ (ifaceOk_spec e.iface) rfl ?_ | refine CallG.same _ (ifaceOk_spec e.iface) rfl ?_ | refine CallK.pv (ifaceOk_spec e.iface) rfl rfl ?_
    simp -implicitDefEqProofs [he]
    try simp only [pfx0, act0]
    grind
  · simp -implicitDefEqProofs [hk]
    refine ⟨head_bad hs, fun h1 h2 h3 h4 h5 => ?_⟩
    have he := head_good hs h1 h2 h3 h4 h5
    have ht : tailOk e = (ifaceOk e.iface && e.peer == 0 && pfx0 e.pfx && act0 e.act) := by simp [tailOk, hk]
    rw [ht] at he
    first | refine CallK.same (ifaceOk_spec e.iface) rfl rfl ?_ | refine CallQ.same (ifaceOk_spec e.iface) rfl rfl ?_ | refine CallQG.same _ (ifaceOk_spec e.iface) rfl ?_ | refine CallG.same _ (ifaceOk_spec e.iface) rfl ?_ | refine CallK.pv (ifaceOk_spec e.iface) rfl rfl ?_
    simp -implicitDefEqProofs [he]
    try simp only [pfx0, act0]
    grind
  · simp -implicitDefEqProofs [k1, k2, k3, k4, k5, k6]
    refine ⟨head_bad hs, fun h1 h2 h3 h4 h5 => ?_⟩
    have ht : tailOk e = false := by simp [tailOk, k1, k2, k3, k4, k5, k6]
    simp [head_good hs h1 h2 h3 h4 h5, ht]
theorem head_badr {e : Ev} (h : ((((e.router < 0 ∨ 1048576 < e.router) ∨ e.seq < 1) ∨ 1099511627776 < e.seq) ∨ e.time < 0) ∨ 1099511627776 < e.time) : evOk e = false := by
  have : headOk e = false := by
    cases hh : headOk e with
    | false => rfl
    | true =>
      unfold headOk idOk at hh
      simp at hh
      omega
  simp [evOk, this]
theorem head_goodr {e : Ev} (h0 : 0 ≤ e.router) (h1 : e.router ≤ 1048576) (h2 : 1 ≤ e.seq) (h3 : e.seq ≤ 1099511627776) (h4 : 0 ≤ e.time) (h5 : e.time ≤ 1099511627776) : evOk e = tailOk e :=
  evOk_head (by unfold headOk idOk; simp [h0, h1, h2, h3, h4, h5])
theorem zero_eq (x : Int) : (0 = x) = (x = 0) := propext eq_comm
set_option maxRecDepth 8000 in
set_option maxHeartbeats 2000000 in
theorem evOkr_spec (e : Ev) (hw : e.pfx.addr.wf) : FSpec Tryz.prog 168 [e.av] [] (.int .i64 (if evOk e then 0 else 2)) [] := by
  refine FSpec.of_flat (q := [(10, .m [.p [], .p [], .p [1], .p [1], .p [], .e [53, 50]]), (16, .m [.p [], .p [], .p [1], .p [1], .p [], .e [79, 76]])]) Tryz.func168 (by kernel_rfl) rfl Tryz.ntmps168 Tryz.results168 hP (by kernel_rfl) (by simp) (by first | rfl | simp) ?_
  rcases kinds_of e.kind with hk | hk | hk | hk | hk | hk | ⟨k1, k2, k3, k4, k5, k6⟩
  · simp -implicitDefEqProofs [hk]
    refine ⟨head_badr, fun h0 h1 h2 h3 h4 h5 => ?_⟩
    have ht : tailOk e = (pfx0 e.pfx && act0 e.act && e.iface == 0 && e.peer == 0) := by simp [tailOk, hk]
    rw [head_goodr h0 h1 h2 h3 h4 h5, ht]
    simp only [pfx0, act0]
    grind
  · simp -implicitDefEqProofs [hk]
    refine ⟨head_badr, fun h0 h1 h2 h3 h4 h5 => ?_⟩
    have ht : tailOk e = (pfx0 e.pfx && act0 e.act && e.iface == 0 && e.peer == 0) := by simp [tailOk, hk]
    rw [head_goodr h0 h1 h2 h3 h4 h5, ht]
    simp only [pfx0, act0]
    grind
  · simp -implicitDefEqProofs [hk]
    refine ⟨head_badr, fun h0 h1 h2 h3 h4 h5 => ?_⟩
    have he := head_goodr h0 h1 h2 h3 h4 h5
    have ht : tailOk e = (checkP e.pfx == 0 && actOk e.act && e.iface == 0 && e.peer == 0) := by simp [tailOk, hk]
    rw [ht] at he
    first | refine CallK.same (checkPr_spec e.pfx hw) rfl rfl ?_ | refine CallQ.same (checkPr_spec e.pfx hw) rfl rfl ?_ | refine CallQG.same _ (checkPr_spec e.pfx hw) rfl ?_ | refine CallG.same _ (checkPr_spec e.pfx hw) rfl ?_ | refine CallK.pv (checkPr_spec e.pfx hw) rfl rfl ?_
    simp -implicitDefEqProofs
    first | refine CallK.same (actOkr_spec e.act) rfl rfl ?_ | refine CallQ.same (actOkr_spec e.act) rfl rfl ?_ | refine CallQG.same _ (actOkr_spec e.act) rfl ?_ | refine CallG.same _ (actOkr_spec e.act) rfl ?_ | refine CallK.pv (actOkr_spec e.act) rfl rfl ?_
    simp -implicitDefEqProofs [he]
    generalize checkP e.pfx = c
    generalize actOk e.act = ao
    grind
  · simp -implicitDefEqProofs [hk]
    refine ⟨head_badr, fun h0 h1 h2 h3 h4 h5 => ?_⟩
    have he := head_goodr h0 h1 h2 h3 h4 h5
    have ht : tailOk e = (checkP e.pfx == 0 && act0 e.act && e.iface == 0 && e.peer == 0) := by simp [tailOk, hk]
    rw [ht] at he
    first | refine CallK.same (checkPr_spec e.pfx hw) rfl rfl ?_ | refine CallQ.same (checkPr_spec e.pfx hw) rfl rfl ?_ | refine CallQG.same _ (checkPr_spec e.pfx hw) rfl ?_ | refine CallG.same _ (checkPr_spec e.pfx hw) rfl ?_ | refine CallK.pv (checkPr_spec e.pfx hw) rfl rfl ?_
    simp -implicitDefEqProofs [he]
    generalize checkP e.pfx = c
    simp only [act0]
    grind
  · simp -implicitDefEqProofs [hk]
    refine ⟨head_badr, fun h0 h1 h2 h3 h4 h5 => ?_⟩
    have ht : tailOk e = (ifaceOk e.iface && idOk e.peer && pfx0 e.pfx && act0 e.act) := by simp [tailOk, hk]
    rw [head_goodr h0 h1 h2 h3 h4 h5, ht]
    simp only [pfx0, act0, ifaceOk, idOk, zero_eq]
    refine ⟨fun h => ?_, fun a b c d f g i j k l => ?_⟩
    · grind
    · simp [*]
  · simp -implicitDefEqProofs [hk]
    refine ⟨head_badr, fun h0 h1 h2 h3 h4 h5 => ?_⟩
    have ht : tailOk e = (ifaceOk e.iface && e.peer == 0 && pfx0 e.pfx && act0 e.act) := by simp [tailOk, hk]
    rw [head_goodr h0 h1 h2 h3 h4 h5, ht]
    simp only [pfx0, act0, ifaceOk, zero_eq]
    refine ⟨fun h => ?_, fun a b c d f g i j k => ?_⟩
    · grind
    · simp [*]
  · simp -implicitDefEqProofs [k1, k2, k3, k4, k5, k6]
    have ht : tailOk e = false := by simp [tailOk, k1, k2, k3, k4, k5, k6]
    exact ⟨head_badr, fun h0 h1 h2 h3 h4 h5 => by rw [head_goodr h0 h1 h2 h3 h4 h5, ht]⟩
end Go.Am


set_option linter.unusedVariables false
set_option linter.unusedSimpArgs false
set_option pp.deepTerms false
set_option pp.deepTerms.threshold 40
namespace Go.Am
open Go.Proofs

def seatF : List Seat → Int → Option Seat
  | [], _ => none
  | s :: l, r => if s.router = r then some s else seatF l r
def seatI : List Seat → Int → Int → Int
  | [], _, _ => -1
  | s :: l, r, k => if s.router = r then k else seatI l r (k + 1)
theorem seatI_F : ∀ (l : List Seat) (r k : Int), 0 ≤ k → (seatF l r = none ∧ seatI l r k = -1) ∨ ∃ (i : Nat) (s : Seat), l[i]? = some s ∧ seatF l r = some s ∧ seatI l r k = k + i
  | [], r, k, _ => .inl ⟨rfl, rfl⟩
  | x :: l, r, k, hk => by
    rw [seatF, seatI]
    by_cases h : x.router = r
    · rw [if_pos h, if_pos h]
      exact .inr ⟨0, x, rfl, rfl, by simp⟩
    · rw [if_neg h, if_neg h]
      rcases seatI_F l r (k + 1) (by omega) with h | ⟨i, s, h1, h2, h3⟩
      · exact .inl h
      · exact .inr ⟨i + 1, s, by simpa using h1, h2, by rw [h3]; omega⟩
def seat0 : Seat := ⟨0, 0, 0, false⟩
theorem find1_spec (s : Seat) (r : Int) : FSpec Tryz.prog 251 [s.av, .ptr 0 0] [.box 3 [.int .i64 r]] (.bool (s.router == r)) [.box 3 [.int .i64 r]] := by
  refine FSpec.of_o (q := []) Tryz.func251 (by kernel_rfl) rfl Tryz.ntmps251 Tryz.results251 hP (by kernel_rfl) (by simp) (by first | rfl | simp) ?_
  simp
  refine EndO.ret [] [0] _ rfl ?_
  simp
theorem indexF_spec (l : List Seat) (r : Int) (hl : l.length ≤ 9223372036854775807) :
    FSpec Tryz.prog 125 [.im (.sl 4 (l.map Seat.iv)), .fn 251 [.ptr 0 0]] [.box 3 [.int .i64 r]] (.int .i64 (seatI l r 0)) [.box 3 [.int .i64 r]] := by
  refine FSpec.of_o (q := []) Tryz.func125 (by kernel_rfl) rfl Tryz.ntmps125 Tryz.results125 hP (by kernel_rfl) (by simp) (by first | rfl | simp) ?_
  simp
  refine LoopK.os (fun k : Nat => [(0, .im (.sl 4 (l.map Seat.iv))), (1, .fn 251 [.ptr 0 0]), (7, .int .i64 l.length), (8, .int .i64 k)])
    (fun _ => [.box 3 [.int .i64 r]])
    (fun k => k ≤ l.length ∧ seatI (l.drop k) r k = seatI l r 0) (fun k => l.length - k) 0 [0] ⟨Nat.zero_le _, by simp⟩ (by simp) ?_
  rintro k ⟨hk, hR⟩
  by_cases hlt : k < l.length
  · have e1 : IntKind.i64.wrap (k + 1) = (k + 1 : Nat) := wrap64 (by omega) (by omega)
    rw [List.drop_eq_getElem_cons hlt, seatI] at hR
    simp -implicitDefEqProofs [hlt, e1]
    refine CallO.mk [] [0] (find1_spec l[k] r) (by simp) rfl (by simp) (by simp) (by simp) ?_
    simp -implicitDefEqProofs
    refine ⟨fun h => ?_, fun h => ?_⟩
    · rw [if_pos h] at hR
      refine EndO.ret [] [0] _ rfl ?_
      simp [← hR]
    · rw [if_neg h] at hR
      refine Again.os (k + 1) [0] ⟨hlt, by simpa using hR⟩ (by omega) ?_
      simp [e1]
  · have hkk : k = l.length := by omega
    subst hkk
    rw [List.drop_length, seatI] at hR
    simp
    refine EndO.ret [] [0] _ rfl ?_
    simp [← hR]
theorem findO_spec (l : List Seat) (r : Int) : FSpec Tryz.prog 234 [.im (.sl 4 (l.map Seat.iv)), .int .i64 r] [] (.tup [((seatF l r).getD seat0).av, .bool (seatF l r).isSome]) [] := by
  refine FSpec.bd (enters_of Tryz.func234 (by kernel_rfl) rfl) fun hbd => ?_
  have hl : l.length ≤ 9223372036854775807 := by simp [maxLen] at hbd; exact hbd
  refine FSpec.of_z (q := []) Tryz.func234 (by kernel_rfl) rfl Tryz.ntmps234 Tryz.results234 hP (by kernel_rfl) (by simp) (by first | rfl | simp) ?_
  simp
  refine CallO.mk [] [0] (indexF_spec l r hl) (by simp) rfl (by simp) (by simp) (by simp) ?_
  simp
  rcases seatI_F l r 0 (Int.le_refl _) with ⟨h1, h2⟩ | ⟨i, s, h1, h2, h3⟩
  · simp [h2]
    refine EndZ.ret [] (.tup [seat0.av, .bool false]) (by simp [seat0]) ?_
    simp [h1]
  · have hlt := (List.getElem?_eq_some_iff.1 h1).1
    have hg := (List.getElem?_eq_some_iff.1 h1).2
    rw [Int.zero_add] at h3
    simp [h3, h1, hlt, hg]
    refine ⟨fun h => by omega, ?_⟩
    refine EndZ.ret [] (.tup [s.av, .bool true]) (by simp) ?_
    simp [h2]
theorem findR_spec (l : List Seat) (r : Int) : FSpec Tryz.prog 169 [.im (.sl 4 (l.map Seat.iv)), .int .i64 r] [] (.tup [((seatF l r).getD seat0).av, .bool (seatF l r).isSome]) [] := by
  refine FSpec.bd (enters_of Tryz.func169 (by kernel_rfl) rfl) fun hbd => ?_
  have hl : l.length ≤ 9223372036854775807 := by simp [maxLen] at hbd; exact hbd
  refine FSpec.of_z (q := []) Tryz.func169 (by kernel_rfl) rfl Tryz.ntmps169 Tryz.results169 hP (by kernel_rfl) (by simp) (by first | rfl | simp) ?_
  simp
  refine LoopK.os (fun k : Nat => [(1, .int .i64 r), (4, .ptr 0 0), (8, .im (.sl 4 (l.map Seat.iv))), (9, .int .i64 l.length), (10, .int .i64 k)])
    (fun _ => [.box 65 [.int .i64 0, .int .u64 0, .int .i64 0, .bool false]])
    (fun k => k ≤ l.length ∧ seatF (l.drop k) r = seatF l r) (fun k => l.length - k) 0 [0] ⟨Nat.zero_le _, by simp⟩ (by simp) ?_
  rintro k ⟨hk, hR⟩
  by_cases hlt : k < l.length
  · have e1 : IntKind.i64.wrap (k + 1) = (k + 1 : Nat) := wrap64 (by omega) (by omega)
    rw [List.drop_eq_getElem_cons hlt, seatF] at hR
    simp -implicitDefEqProofs [hlt, e1]
    refine ⟨fun h => ?_, fun h => ?_⟩
    · rw [if_pos h] at hR
      refine EndZ.ret [] (.tup [l[k].av, .bool true]) (by simp) ?_
      simp [← hR]
    · rw [if_neg h] at hR
      refine Again.os (k + 1) [0] ⟨hlt, hR⟩ (by omega) ?_
      simp
  · have hkk : k = l.length := by omega
    subst hkk
    rw [List.drop_length, seatF] at hR
    simp
    refine EndZ.ret [] (.tup [seat0.av, .bool false]) (by simp [seat0]) ?_
    simp [← hR]
end Go.Am


set_option linter.unusedVariables false
set_option linter.unusedSimpArgs false
set_option pp.deepTerms false
set_option pp.deepTerms.threshold 40
namespace Go.Am
open Go.Proofs

def mayS (l : List Seat) (e : Ev) (hz : Int) : Int :=
  if ¬ checkS l = 0 ∨ evOk e = false then 2
  else if hz < -1 ∨ 1099511627776 < hz then 1
  else if seatF l e.router = none ∧ ¬ e.kind = 1 then 14
  else if ¬ e.seq = ((seatF l e.router).getD seat0).seq + 1 then 12
  else if e.time < ((seatF l e.router).getD seat0).time ∨ e.time ≤ hz then 13
  else if ((seatF l e.router).getD seat0).up = decide (e.kind = 1) then 10
  else if seatF l e.router = none ∧ l.length = 64 then 8
  else 0
def mayT (l : List Seat) (e : Ev) (hz : Int) : Int :=
  if seatF l e.router = none ∧ ¬ e.kind = 1 then 14
  else if ¬ e.seq = ((seatF l e.router).getD seat0).seq + 1 then 12
  else if e.time < ((seatF l e.router).getD seat0).time ∨ e.time ≤ hz then 13
  else if ((seatF l e.router).getD seat0).up = decide (e.kind = 1) then 10
  else if seatF l e.router = none ∧ l.length = 64 then 8
  else 0
theorem mayS_T {l : List Seat} {e : Ev} {hz : Int} (a1 : checkS l = 0) (a2 : evOk e = true) (a3 : -1 ≤ hz) (a4 : hz ≤ 1099511627776) : mayS l e hz = mayT l e hz := by
  unfold mayS
  rw [if_neg (by simp [a1, a2]), if_neg (by omega)]
  rfl
theorem wrapU6 {x : Int} (h0 : 0 ≤ x) (h1 : x ≤ 18446744073709551615) : IntKind.u64.wrap x = x := by
  simp [IntKind.wrap, IntKind.signed, IntKind.bits]
  omega
theorem checkSL_mem : ∀ {l : List Seat} {a : Int}, checkSL l a = 0 → ∀ s ∈ l, rightS s = true
  | [], _, _, s, h => by cases h
  | x :: l, a, hc, s, h => by
    rw [checkSL] at hc
    split at hc
    · omega
    · rename_i hx
      simp at hx
      rcases List.mem_cons.1 h with rfl | h
      · exact hx.1
      · exact checkSL_mem hc s h
theorem checkS_mem {l : List Seat} (hc : checkS l = 0) : ∀ s ∈ l, rightS s = true := by
  unfold checkS at hc
  split at hc
  · omega
  · exact checkSL_mem hc
theorem seatF_mem : ∀ {l : List Seat} {r : Int} {s : Seat}, seatF l r = some s → s ∈ l ∧ s.router = r
  | [], _, _, h => by cases h
  | x :: l, r, s, h => by
    rw [seatF] at h
    split at h
    · cases h; exact ⟨List.mem_cons_self, by assumption⟩
    · have := seatF_mem h
      exact ⟨List.mem_cons_of_mem _ this.1, this.2⟩
theorem seat_seq {l : List Seat} (hc : checkS l = 0) (r : Int) : 0 ≤ ((seatF l r).getD seat0).seq ∧ ((seatF l r).getD seat0).seq ≤ 1099511627776 := by
  cases h : seatF l r with
  | none => simp [seat0]
  | some s =>
    have := checkS_mem hc s (seatF_mem h).1
    unfold rightS at this
    simp at this
    simp
    omega
theorem evOk_seq {e : Ev} (h : evOk e = true) : 1 ≤ e.seq ∧ e.seq ≤ 1099511627776 := by
  unfold evOk headOk at h
  simp at h
  omega
set_option maxRecDepth 8000 in
set_option maxHeartbeats 2000000 in
theorem mayR_spec (l : List Seat) (e : Ev) (hz : Int) (hw : e.pfx.addr.wf) :
    FSpec Tryz.prog 133 [.im (.sl 4 (l.map Seat.iv)), e.av, .int .i64 hz] [] (.int .i64 (mayS l e hz)) [] := by
  have hc := checkSr_spec l
  have he := evOkr_spec e hw
  have hf := findR_spec l e.router
  refine FSpec.of_flat (q := []) Tryz.func133 (by kernel_rfl) rfl Tryz.ntmps133 Tryz.results133 hP (by kernel_rfl) (by simp) (by first | rfl | simp) ?_
  simp -implicitDefEqProofs
  first | refine CallK.same (hc) rfl rfl ?_ | refine CallQ.same (hc) rfl rfl ?_ | refine CallQG.same _ (hc) rfl ?_ | refine CallG.same _ (hc) rfl ?_ | refine CallK.pv (hc) rfl rfl ?_
  simp -implicitDefEqProofs
  first | refine CallK.same (he) rfl rfl ?_ | refine CallQ.same (he) rfl rfl ?_ | refine CallQG.same _ (he) rfl ?_ | refine CallG.same _ (he) rfl ?_ | refine CallK.pv (he) rfl rfl ?_
  simp -implicitDefEqProofs
  refine ⟨fun h => ?_, fun a1 a2 => ⟨fun h => ?_, fun a3 a4 => ?_⟩⟩
  · unfold mayS
    rw [if_pos (by grind)]
  · unfold mayS
    rw [if_neg (by grind), if_pos (by grind)]
  first | refine CallK.same (hf) rfl rfl ?_ | refine CallQ.same (hf) rfl rfl ?_ | refine CallQG.same _ (hf) rfl ?_ | refine CallG.same _ (hf) rfl ?_ | refine CallK.pv (hf) rfl rfl ?_
  simp -implicitDefEqProofs
  rw [mayS_T a1 a2 a3 a4]
  have hq := seat_seq a1 e.router
  rw [wrapU6 (by omega) (by omega)]
  unfold mayT
  generalize hS : ((seatF l e.router).getD seat0) = S at *
  have hl : ((l.length : Int) = 64) = (l.length = 64) := by apply propext; omega
  rw [hl]
  grind
theorem asked_spec (l : List Seat) (e : Ev) (hz : Int) (hsq : 0 ≤ e.seq) :
    FSpec Tryz.prog 205 [.im (.sl 4 (l.map Seat.iv)), e.av, .int .i64 hz] [] (.int .i64 (if ¬ checkS l = 0 ∨ evOk e = false then 2 else if hz < -1 ∨ 1099511627776 < hz then 1 else 0)) [] := by
  have hc := checkS_spec l
  have he := evOk_spec e hsq
  refine FSpec.of_flat (q := []) Tryz.func205 (by kernel_rfl) rfl Tryz.ntmps205 Tryz.results205 hP (by kernel_rfl) (by simp) (by first | rfl | simp) ?_
  simp -implicitDefEqProofs
  first | refine CallK.same (hc) rfl rfl ?_ | refine CallQ.same (hc) rfl rfl ?_ | refine CallQG.same _ (hc) rfl ?_ | refine CallG.same _ (hc) rfl ?_ | refine CallK.pv (hc) rfl rfl ?_
  simp -implicitDefEqProofs
  first | refine CallK.same (he) rfl rfl ?_ | refine CallQ.same (he) rfl rfl ?_ | refine CallQG.same _ (he) rfl ?_ | refine CallG.same _ (he) rfl ?_ | refine CallK.pv (he) rfl rfl ?_
  simp -implicitDefEqProofs
  grind
set_option maxRecDepth 8000 in
set_option maxHeartbeats 2000000 in
theorem fits_spec (l : List Seat) (e : Ev) (hz : Int) (a1 : checkS l = 0) (a2 : evOk e = true) :
    FSpec Tryz.prog 206 [.im (.sl 4 (l.map Seat.iv)), e.av, .int .i64 hz] [] (.int .i64 (mayT l e hz)) [] := by
  have hf := findO_spec l e.router
  refine FSpec.of_flat (q := []) Tryz.func206 (by kernel_rfl) rfl Tryz.ntmps206 Tryz.results206 hP (by kernel_rfl) (by simp) (by first | rfl | simp) ?_
  simp -implicitDefEqProofs
  first | refine CallK.same (hf) rfl rfl ?_ | refine CallQ.same (hf) rfl rfl ?_ | refine CallQG.same _ (hf) rfl ?_ | refine CallG.same _ (hf) rfl ?_ | refine CallK.pv (hf) rfl rfl ?_
  simp -implicitDefEqProofs
  have hq := seat_seq a1 e.router
  have hes := evOk_seq a2
  have hlen := checkS_len a1
  rw [wrapU6 (by omega) (by omega)]
  unfold mayT
  generalize hS : ((seatF l e.router).getD seat0) = S at *
  have hl : (64 ≤ (l.length : Int)) = (l.length = 64) := by apply propext; omega
  have hl2 : ((l.length : Int) < 64) = ¬ (l.length = 64) := by apply propext; omega
  have hsq : (e.seq - 1 = S.seq) = (e.seq = S.seq + 1) := by apply propext; omega
  rw [hl, hl2, hsq]
  grind
theorem mayO_spec (l : List Seat) (e : Ev) (hz : Int) (hsq : 0 ≤ e.seq) :
    FSpec Tryz.prog 162 [.im (.sl 4 (l.map Seat.iv)), e.av, .int .i64 hz] [] (.int .i64 (mayS l e hz)) [] := by
  have ha := asked_spec l e hz hsq
  refine FSpec.of_flat (q := []) Tryz.func162 (by kernel_rfl) rfl Tryz.ntmps162 Tryz.results162 hP (by kernel_rfl) (by simp) (by first | rfl | simp) ?_
  simp -implicitDefEqProofs
  first | refine CallK.same (ha) rfl rfl ?_ | refine CallQ.same (ha) rfl rfl ?_ | refine CallQG.same _ (ha) rfl ?_ | refine CallG.same _ (ha) rfl ?_ | refine CallK.pv (ha) rfl rfl ?_
  simp -implicitDefEqProofs
  by_cases A : ¬ checkS l = 0 ∨ evOk e = false
  · have hm : mayS l e hz = 2 := by unfold mayS; rw [if_pos A]
    simp [A, hm]
  · by_cases B : hz < -1 ∨ 1099511627776 < hz
    · have hm : mayS l e hz = 1 := by unfold mayS; rw [if_neg A, if_pos B]
      simp [A, B, hm]
    · have a1 : checkS l = 0 := by grind
      have a2 : evOk e = true := by grind
      rw [if_neg A, if_neg B]
      simp -implicitDefEqProofs
      have hfit := fits_spec l e hz a1 a2
      rw [← mayS_T a1 a2 (by omega) (by omega)] at hfit
      first | refine CallK.same (hfit) rfl rfl ?_ | refine CallQ.same (hfit) rfl rfl ?_ | refine CallQG.same _ (hfit) rfl ?_ | refine CallG.same _ (hfit) rfl ?_ | refine CallK.pv (hfit) rfl rfl ?_
      simp -implicitDefEqProofs
end Go.Am


set_option linter.unusedVariables false
set_option linter.unusedSimpArgs false
set_option pp.deepTerms false
set_option pp.deepTerms.threshold 40
namespace Go.Am
open Go.Proofs

def seatOf (e : Ev) : Seat := ⟨e.router, e.seq, e.time, e.kind != 2⟩
def putSeat (l : List Seat) (s : Seat) : List Seat := l.filter (fun x => decide (x.router < s.router)) ++ [s] ++ l.filter (fun x => decide (s.router < x.router))
def nextS (l : List Seat) (e : Ev) (hz : Int) : List Seat × Int :=
  if mayS l e hz = 2 ∨ mayS l e hz = 1 then ([], mayS l e hz) else if ¬ mayS l e hz = 0 then (l, mayS l e hz) else (putSeat l (seatOf e), 0)
theorem filter_take {α : Type} (p : α → Bool) (l : List α) (k : Nat) (h : k < l.length) : (l.take (k + 1)).filter p = if p l[k] then (l.take k).filter p ++ [l[k]] else (l.take k).filter p := by
  rw [List.take_add_one, List.getElem?_eq_getElem h, List.filter_append]
  simp only [Option.toList_some]
  cases hp : p l[k] <;> simp [hp]
set_option maxRecDepth 8000 in
set_option maxHeartbeats 2000000 in
theorem nextR_spec (l : List Seat) (e : Ev) (hz : Int) (hw : e.pfx.addr.wf) (hl : l.length ≤ 100000000) :
    FSpec Tryz.prog 137 [.im (.sl 4 (l.map Seat.iv)), e.av, .int .i64 hz] [] (.tup [.im (.sl 4 ((nextS l e hz).1.map Seat.iv)), .int .i64 (nextS l e hz).2]) [] := by
  have hm := mayR_spec l e hz hw
  refine FSpec.of_z (q := []) Tryz.func137 (by kernel_rfl) rfl Tryz.ntmps137 Tryz.results137 hP (by kernel_rfl) (by simp) (by first | rfl | simp) ?_
  simp -implicitDefEqProofs
  first | refine CallK.same (hm) rfl rfl ?_ | refine CallQ.same (hm) rfl rfl ?_ | refine CallQG.same _ (hm) rfl ?_ | refine CallG.same _ (hm) rfl ?_ | refine CallK.pv (hm) rfl rfl ?_
  simp -implicitDefEqProofs
  unfold nextS
  generalize mayS l e hz = why at *
  refine ⟨fun h => ?_, fun b1 b2 => ⟨fun h => ?_, fun h0 => ?_⟩⟩
  · refine EndZ.ret [] (.tup [.im (.sc (.slice none 0 0)), .int .i64 why]) (by simp) ?_
    simp [h]
  · refine ⟨⟨by omega, by unfold maxLen; omega⟩, ?_⟩
    refine EndZ.ret [2] (.tup [.row 2, .int .i64 why]) (by simp) ?_
    simp [b1, b2, h]
  · subst h0
    refine LoopK.nil (.sl 10 65 4) ?_
    simp -implicitDefEqProofs
    refine LoopK.os (fun k : Nat => [(0, .im (.sl 4 (l.map Seat.iv))), (4, .ptr 0 0), (9, .ptr 1 0), (10, .row 2), (42, .im (.sl 4 (l.map Seat.iv))), (43, .int .i64 l.length), (44, .int .i64 k)])
      (fun k => [.box 39 (e.iv.map .im), .box 65 ((seatOf e).iv.map .im), .row 65 4 (((l.take k).filter (fun x => decide (x.router < e.router))).map Seat.iv)])
      (fun k => k ≤ l.length) (fun k => l.length - k) 0 [0, 1, 2] (Nat.zero_le _) (by simp [seatOf]) ?_
    intro k hk
    by_cases hlt : k < l.length
    · have e1 : IntKind.i64.wrap (k + 1) = (k + 1 : Nat) := wrap64 (by omega) (by omega)
      have hft := filter_take (fun x => decide (x.router < e.router)) l k hlt
      have hfl : ((l.take k).filter (fun x => decide (x.router < e.router))).length ≤ k := by
        have := List.length_filter_le (fun x => decide (x.router < e.router)) (l.take k)
        rw [List.length_take] at this
        omega
      simp -implicitDefEqProofs [hlt]
      refine ⟨fun h => ?_, fun h => ?_⟩
      · refine ⟨⟨by omega, by unfold maxLen; omega⟩, ?_⟩
        rw [if_pos (by simpa using h)] at hft
        refine Again.os (k + 1) [0, 1, 5] hlt (by omega) ?_
        simp -implicitDefEqProofs [e1, hft]
      · rw [if_neg (by simpa using h)] at hft
        refine Again.os (k + 1) [0, 1, 2] hlt (by omega) ?_
        simp -implicitDefEqProofs [e1, hft]
    · have hkk : k = l.length := by omega
      subst hkk
      have hfl : (l.filter (fun x => decide (x.router < e.router))).length ≤ l.length := List.length_filter_le _ _
      simp -implicitDefEqProofs
      refine ⟨⟨by omega, by unfold maxLen; omega⟩, ?_⟩
      refine LoopK.os (fun k : Nat => [(4, .ptr 0 0), (10, .row 1), (62, .im (.sl 4 (l.map Seat.iv))), (63, .int .i64 l.length), (64, .int .i64 k)])
        (fun k => [.box 39 (e.iv.map .im), .row 65 4 ((l.filter (fun x => decide (x.router < e.router)) ++ [seatOf e] ++ (l.take k).filter (fun x => decide (e.router < x.router))).map Seat.iv)])
        (fun k => k ≤ l.length) (fun k => l.length - k) 0 [0, 4] (Nat.zero_le _) (by simp) ?_
      clear hk hlt
      intro k hk
      by_cases hlt : k < l.length
      · have e1 : IntKind.i64.wrap (k + 1) = (k + 1 : Nat) := wrap64 (by omega) (by omega)
        have hft := filter_take (fun x => decide (e.router < x.router)) l k hlt
        have hf2 : ((l.take k).filter (fun x => decide (e.router < x.router))).length ≤ k := by
          have := List.length_filter_le (fun x => decide (e.router < x.router)) (l.take k)
          rw [List.length_take] at this
          omega
        simp -implicitDefEqProofs [hlt]
        refine ⟨fun h => ?_, fun h => ?_⟩
        · refine ⟨⟨by omega, by unfold maxLen; omega⟩, ?_⟩
          rw [if_pos (by simpa using h)] at hft
          refine Again.os (k + 1) [0, 4] hlt (by omega) ?_
          simp -implicitDefEqProofs [e1, hft]
        · rw [if_neg (by simpa using h)] at hft
          refine Again.os (k + 1) [0, 1] hlt (by omega) ?_
          simp -implicitDefEqProofs [e1, hft]
      · have hkk : k = l.length := by omega
        subst hkk
        simp -implicitDefEqProofs
        refine EndZ.ret [1] (.tup [.row 1, .int .i64 0]) (by simp) ?_
        simp -implicitDefEqProofs [putSeat, seatOf]
        rfl
end Go.Am


set_option linter.unusedVariables false
set_option linter.unusedSimpArgs false
set_option pp.deepTerms false
set_option pp.deepTerms.threshold 40
namespace Go.Am
open Go.Proofs

def ltL (i : Int) (l : List Link) : List Link := l.filter fun x => decide (x.iface < i)
def eqL (i : Int) (l : List Link) : List Link := l.filter fun x => decide (x.iface = i)
def gtL (i : Int) (l : List Link) : List Link := l.filter fun x => decide (i < x.iface)
theorem ltL_len (i : Int) (l : List Link) : (ltL i l).length ≤ l.length := List.length_filter_le _ _
theorem eqL_len (i : Int) (l : List Link) : (eqL i l).length ≤ l.length := List.length_filter_le _ _
theorem gtL_len (i : Int) (l : List Link) : (gtL i l).length ≤ l.length := List.length_filter_le _ _
theorem ltL_take (i : Int) (l : List Link) (k : Nat) (h : k < l.length) : ltL i (l.take (k + 1)) = if l[k].iface < i then ltL i (l.take k) ++ [l[k]] else ltL i (l.take k) := by
  unfold ltL; rw [filter_take _ _ _ h]; simp
theorem eqL_take (i : Int) (l : List Link) (k : Nat) (h : k < l.length) : eqL i (l.take (k + 1)) = if l[k].iface = i then eqL i (l.take k) ++ [l[k]] else eqL i (l.take k) := by
  unfold eqL; rw [filter_take _ _ _ h]; simp
theorem gtL_take (i : Int) (l : List Link) (k : Nat) (h : k < l.length) : gtL i (l.take (k + 1)) = if i < l[k].iface then gtL i (l.take k) ++ [l[k]] else gtL i (l.take k) := by
  unfold gtL; rw [filter_take _ _ _ h]; simp
theorem ltL_nil (i : Int) : ltL i [] = [] := rfl
theorem eqL_nil (i : Int) : eqL i [] = [] := rfl
theorem gtL_nil (i : Int) : gtL i [] = [] := rfl
set_option maxRecDepth 8000 in
set_option maxHeartbeats 2000000 in
theorem parts_spec (l : List Link) (i : Int) (hl : l.length ≤ 100000000) :
    FSpec Tryz.prog 218 [.im (.sl 2 (l.map Link.iv)), .int .i64 i] [] (.tup [.row 0, .row 1, .row 2]) [.row 200 2 ((ltL i l).map Link.iv), .row 200 2 ((eqL i l).map Link.iv), .row 200 2 ((gtL i l).map Link.iv)] := by
  refine FSpec.of_o (q := []) Tryz.func218 (by kernel_rfl) rfl Tryz.ntmps218 Tryz.results218 hP (by kernel_rfl) (by simp) (by first | rfl | simp) ?_
  simp -implicitDefEqProofs
  refine LoopK.nil (.sl 7 200 2) ?_
  refine LoopK.nil (.sl 8 200 2) ?_
  refine LoopK.nil (.sl 9 200 2) ?_
  simp -implicitDefEqProofs
  refine LoopK.os (fun k : Nat => [(1, .int .i64 i), (7, .row 0), (8, .row 1), (9, .row 2), (12, .im (.sl 2 (l.map Link.iv))), (13, .int .i64 l.length), (14, .int .i64 k)])
    (fun k => [.row 200 2 ((ltL i (l.take k)).map Link.iv), .row 200 2 ((eqL i (l.take k)).map Link.iv), .row 200 2 ((gtL i (l.take k)).map Link.iv)])
    (fun k => k ≤ l.length) (fun k => l.length - k) 0 [0, 1, 2] (Nat.zero_le _) (by simp [ltL_nil, eqL_nil, gtL_nil]) ?_
  intro k hk
  by_cases hlt : k < l.length
  · have e1 : IntKind.i64.wrap (k + 1) = (k + 1 : Nat) := wrap64 (by omega) (by omega)
    have g1 := ltL_take i l k hlt
    have g2 := eqL_take i l k hlt
    have g3 := gtL_take i l k hlt
    have b1 := ltL_len i (l.take k)
    have b2 := eqL_len i (l.take k)
    have b3 := gtL_len i (l.take k)
    rw [List.length_take] at b1 b2 b3
    simp -implicitDefEqProofs [hlt]
    refine ⟨fun h => ?_, fun h => ⟨fun h2 => ?_, fun h2 => ?_⟩⟩
    · refine ⟨⟨by omega, by unfold maxLen; omega⟩, ?_⟩
      rw [if_pos h] at g1
      rw [if_neg (by omega)] at g2 g3
      refine Again.os (k + 1) [5, 1, 2] hlt (by omega) ?_
      simp -implicitDefEqProofs [e1, g1, g2, g3]
    · refine ⟨⟨by omega, by unfold maxLen; omega⟩, ?_⟩
      rw [if_pos h2] at g2
      rw [if_neg (by omega)] at g1 g3
      refine Again.os (k + 1) [0, 5, 2] hlt (by omega) ?_
      simp -implicitDefEqProofs [e1, g1, g2, g3]
    · refine ⟨⟨by omega, by unfold maxLen; omega⟩, ?_⟩
      rw [if_pos (by omega)] at g3
      rw [if_neg (by omega)] at g1 g2
      refine Again.os (k + 1) [0, 1, 5] hlt (by omega) ?_
      simp -implicitDefEqProofs [e1, g1, g2, g3]
  · have hkk : k = l.length := by omega
    subst hkk
    simp -implicitDefEqProofs
    refine EndO.ret [] [0, 1, 2] (.tup [.row 0, .row 1, .row 2]) (by simp) ?_
    simp -implicitDefEqProofs
end Go.Am


set_option linter.unusedVariables false
set_option linter.unusedSimpArgs false
set_option pp.deepTerms false
set_option pp.deepTerms.threshold 40
namespace Go.Am
open Go.Proofs

def putLk (l : List Link) (x : Link) : List Link × Int :=
  if ¬ checkL l = 0 ∨ rightL x = false then ([], 2) else if eqL x.iface l = [] ∧ l.length = 32 then (l, 8) else (ltL x.iface l ++ [x] ++ gtL x.iface l, 0)
def delLk (l : List Link) (i : Int) : List Link × Int :=
  if ¬ checkL l = 0 then ([], 2) else (ltL i l ++ gtL i l, if eqL i l = [] then 3 else 0)
set_option maxRecDepth 8000 in
set_option maxHeartbeats 2000000 in
theorem putLr_spec (l : List Link) (x : Link) (hl : l.length ≤ 100000000) :
    FSpec Tryz.prog 172 [.im (.sl 2 (l.map Link.iv)), x.av] [] (.tup [.im (.sl 2 ((putLk l x).1.map Link.iv)), .int .i64 (putLk l x).2]) [] := by
  have hc := checkLr_spec l
  have ho := rightLr_spec x
  have hp := parts_spec l x.iface hl
  have b1 := ltL_len x.iface l
  have b3 := gtL_len x.iface l
  refine FSpec.of_z (q := []) Tryz.func172 (by kernel_rfl) rfl Tryz.ntmps172 Tryz.results172 hP (by kernel_rfl) (by simp) (by first | rfl | simp) ?_
  simp -implicitDefEqProofs
  first | refine CallK.same (hc) rfl rfl ?_ | refine CallQ.same (hc) rfl rfl ?_ | refine CallQG.same _ (hc) rfl ?_ | refine CallG.same _ (hc) rfl ?_ | refine CallK.pv (hc) rfl rfl ?_
  simp -implicitDefEqProofs
  first | refine CallK.same (ho) rfl rfl ?_ | refine CallQ.same (ho) rfl rfl ?_ | refine CallQG.same _ (ho) rfl ?_ | refine CallG.same _ (ho) rfl ?_ | refine CallK.pv (ho) rfl rfl ?_
  simp -implicitDefEqProofs
  refine ⟨fun h => ?_, fun a1 a2 => ?_⟩
  · refine EndZ.ret [] (.tup [.im (.sc (.slice none 0 0)), .int .i64 2]) (by simp) ?_
    simp [putLk, h]
  refine CallK.outs [] hp rfl ?_ ?_ ?_
  · simp
  · simp [AV.flat]
  simp -implicitDefEqProofs
  refine ⟨fun h1 h2 => ⟨⟨by omega, by unfold maxLen; omega⟩, ?_⟩, fun h => ⟨⟨by omega, by unfold maxLen; omega⟩, ⟨by omega, by unfold maxLen; omega⟩, ?_⟩⟩
  · have h3 : l.length = 32 := by omega
    refine EndZ.ret [5] (.tup [.row 5, .int .i64 8]) (by simp) ?_
    simp -implicitDefEqProofs [putLk, a1, a2, h1, h3]
  · have h3 : ¬ (eqL x.iface l = [] ∧ l.length = 32) := fun ⟨h1, h2⟩ => h h1 (by omega)
    have hx : putLk l x = (ltL x.iface l ++ [x] ++ gtL x.iface l, 0) := by
      unfold putLk
      rw [if_neg (by simp [a1, a2]), if_neg h3]
    refine EndZ.ret [6] (.tup [.row 6, .int .i64 0]) (by simp) ?_
    simp -implicitDefEqProofs [hx]
    try rfl
set_option maxRecDepth 8000 in
set_option maxHeartbeats 2000000 in
theorem delLr_spec (l : List Link) (i : Int) (hl : l.length ≤ 100000000) :
    FSpec Tryz.prog 173 [.im (.sl 2 (l.map Link.iv)), .int .i64 i] [] (.tup [.im (.sl 2 ((delLk l i).1.map Link.iv)), .int .i64 (delLk l i).2]) [] := by
  have hc := checkLr_spec l
  have hp := parts_spec l i hl
  have b1 := ltL_len i l
  have b3 := gtL_len i l
  refine FSpec.of_z (q := []) Tryz.func173 (by kernel_rfl) rfl Tryz.ntmps173 Tryz.results173 hP (by kernel_rfl) (by simp) (by first | rfl | simp) ?_
  simp -implicitDefEqProofs
  first | refine CallK.same (hc) rfl rfl ?_ | refine CallQ.same (hc) rfl rfl ?_ | refine CallQG.same _ (hc) rfl ?_ | refine CallG.same _ (hc) rfl ?_ | refine CallK.pv (hc) rfl rfl ?_
  simp -implicitDefEqProofs
  refine ⟨fun h => ?_, fun a1 => ?_⟩
  · refine EndZ.ret [] (.tup [.im (.sc (.slice none 0 0)), .int .i64 2]) (by simp) ?_
    simp [delLk, h]
  refine CallK.outs [] hp rfl ?_ ?_ ?_
  · simp
  · simp [AV.flat]
  simp -implicitDefEqProofs
  refine ⟨fun h => ⟨⟨by omega, by unfold maxLen; omega⟩, ?_⟩, fun h => ⟨⟨by omega, by unfold maxLen; omega⟩, ?_⟩⟩
  · refine EndZ.ret [3] (.tup [.row 3, .int .i64 3]) (by simp) ?_
    simp -implicitDefEqProofs [delLk, a1, h]
  · refine EndZ.ret [3] (.tup [.row 3, .int .i64 0]) (by simp) ?_
    simp -implicitDefEqProofs [delLk, a1, h]
end Go.Am


set_option linter.unusedVariables false
set_option linter.unusedSimpArgs false
set_option pp.deepTerms false
set_option pp.deepTerms.threshold 40
namespace Go.Am
open Go.Proofs

def sameP (p q : Pfx) : Bool := (p.six == q.six) && (p.addr.hi == q.addr.hi) && (p.addr.lo == q.addr.lo) && (p.len == q.len)
def woR (p : Pfx) (l : List Route) : List Route := l.filter fun r => !sameP r.pfx p
def ltR (p : Pfx) (l : List Route) : List Route := l.filter fun r => decide (cmpP r.pfx p < 0)
def gtR (p : Pfx) (l : List Route) : List Route := l.filter fun r => decide (cmpP p r.pfx < 0)
theorem woR_len (p : Pfx) (l : List Route) : (woR p l).length ≤ l.length := List.length_filter_le _ _
theorem ltR_len (p : Pfx) (l : List Route) : (ltR p l).length ≤ l.length := List.length_filter_le _ _
theorem gtR_len (p : Pfx) (l : List Route) : (gtR p l).length ≤ l.length := List.length_filter_le _ _
theorem woR_take (p : Pfx) (l : List Route) (k : Nat) (h : k < l.length) : woR p (l.take (k + 1)) = if sameP l[k].pfx p then woR p (l.take k) else woR p (l.take k) ++ [l[k]] := by
  unfold woR; rw [filter_take _ _ _ h]; cases sameP l[k].pfx p <;> simp
theorem ltR_take (p : Pfx) (l : List Route) (k : Nat) (h : k < l.length) : ltR p (l.take (k + 1)) = if cmpP l[k].pfx p < 0 then ltR p (l.take k) ++ [l[k]] else ltR p (l.take k) := by
  unfold ltR; rw [filter_take _ _ _ h]; simp
theorem gtR_take (p : Pfx) (l : List Route) (k : Nat) (h : k < l.length) : gtR p (l.take (k + 1)) = if cmpP p l[k].pfx < 0 then gtR p (l.take k) ++ [l[k]] else gtR p (l.take k) := by
  unfold gtR; rw [filter_take _ _ _ h]; simp
theorem woR_nil (p : Pfx) : woR p [] = [] := rfl
theorem ltR_nil (p : Pfx) : ltR p [] = [] := rfl
theorem gtR_nil (p : Pfx) : gtR p [] = [] := rfl
theorem sameP_iff (p q : Pfx) : sameP p q = true ↔ p.six = q.six ∧ p.addr.hi = q.addr.hi ∧ p.addr.lo = q.addr.lo ∧ p.len = q.len := by
  unfold sameP; simp [and_assoc]
set_option maxRecDepth 8000 in
set_option maxHeartbeats 2000000 in
theorem without_spec (l : List Route) (p : Pfx) (hl : l.length ≤ 100000000) :
    FSpec Tryz.prog 216 [.im (.sl 6 (l.map Route.iv)), p.av] [] (.im (.sl 6 ((woR p l).map Route.iv))) [] := by
  refine FSpec.of_z (q := []) Tryz.func216 (by kernel_rfl) rfl Tryz.ntmps216 Tryz.results216 hP (by kernel_rfl) (by simp) (by first | rfl | simp) ?_
  simp -implicitDefEqProofs
  refine LoopK.nil (.sl 5 117 6) ?_
  simp -implicitDefEqProofs
  refine LoopK.os (fun k : Nat => [(3, .ptr 0 0), (5, .row 1), (8, .im (.sl 6 (l.map Route.iv))), (9, .int .i64 l.length), (10, .int .i64 k)])
    (fun k => [.box 34 [.bool p.six, .int .u64 p.addr.hi, .int .u64 p.addr.lo, .int .i64 p.len], .row 117 6 ((woR p (l.take k)).map Route.iv)])
    (fun k => k ≤ l.length) (fun k => l.length - k) 0 [0, 1] (Nat.zero_le _) (by simp [woR_nil]) ?_
  intro k hk
  by_cases hlt : k < l.length
  · have e1 : IntKind.i64.wrap (k + 1) = (k + 1 : Nat) := wrap64 (by omega) (by omega)
    have g1 := woR_take p l k hlt
    have b1 := woR_len p (l.take k)
    rw [List.length_take] at b1
    have hi := sameP_iff l[k].pfx p
    simp -implicitDefEqProofs [hlt]
    refine ⟨fun h => ⟨⟨by omega, by unfold maxLen; omega⟩, ?_⟩, fun h1 h2 h3 h4 => ?_⟩
    · rw [if_neg (fun hs => by obtain ⟨h1, h2, h3, h4⟩ := hi.1 hs; rcases h with h | (h | h) | h <;> contradiction)] at g1
      refine Again.os (k + 1) [0, 4] hlt (by omega) ?_
      simp -implicitDefEqProofs [e1, g1]
    · rw [if_pos (hi.2 ⟨h1, h2, h3, h4⟩)] at g1
      refine Again.os (k + 1) [0, 1] hlt (by omega) ?_
      simp -implicitDefEqProofs [e1, g1]
  · have hkk : k = l.length := by omega
    subst hkk
    simp -implicitDefEqProofs
    refine EndZ.ret [1] (.row 1) (by simp) ?_
    simp -implicitDefEqProofs
def putRt (l : List Route) (x : Route) : List Route × Int :=
  if ¬ checkR l = 0 ∨ routeOk x = false then ([], 2)
  else if (woR x.pfx l).length = 256 then (l, 8)
  else (ltR x.pfx (woR x.pfx l) ++ [x] ++ gtR x.pfx (woR x.pfx l), 0)
set_option maxRecDepth 8000 in
set_option maxHeartbeats 4000000 in
theorem putRtr_spec (l : List Route) (x : Route) (hl : l.length ≤ 100000000) (hwf : ∀ r ∈ l, r.pfx.addr.wf) (hxw : x.pfx.addr.wf) :
    FSpec Tryz.prog 170 [.im (.sl 6 (l.map Route.iv)), x.av] [] (.tup [.im (.sl 6 ((putRt l x).1.map Route.iv)), .int .i64 (putRt l x).2]) [] := by
  have hc := checkRr_spec l hwf
  have ho := routeOkr_spec x hxw
  have hwo := without_spec l x.pfx hl
  have bw := woR_len x.pfx l
  refine FSpec.of_z (q := []) Tryz.func170 (by kernel_rfl) rfl Tryz.ntmps170 Tryz.results170 hP (by kernel_rfl) (by simp) (by first | rfl | simp) ?_
  simp -implicitDefEqProofs
  first | refine CallK.same (hc) rfl rfl ?_ | refine CallQ.same (hc) rfl rfl ?_ | refine CallQG.same _ (hc) rfl ?_ | refine CallG.same _ (hc) rfl ?_ | refine CallK.pv (hc) rfl rfl ?_
  simp -implicitDefEqProofs
  first | refine CallK.same (ho) rfl rfl ?_ | refine CallQ.same (ho) rfl rfl ?_ | refine CallQG.same _ (ho) rfl ?_ | refine CallG.same _ (ho) rfl ?_ | refine CallK.pv (ho) rfl rfl ?_
  simp -implicitDefEqProofs
  refine ⟨fun h => ?_, fun a1 a2 => ?_⟩
  · refine EndZ.ret [] (.tup [.im (.sc (.slice none 0 0)), .int .i64 2]) (by simp) ?_
    simp [putRt, h]
  first | refine CallK.same (hwo) rfl rfl ?_ | refine CallQ.same (hwo) rfl rfl ?_ | refine CallQG.same _ (hwo) rfl ?_ | refine CallG.same _ (hwo) rfl ?_ | refine CallK.pv (hwo) rfl rfl ?_
  simp -implicitDefEqProofs
  have hx : putRt l x = if (woR x.pfx l).length = 256 then (l, 8) else (ltR x.pfx (woR x.pfx l) ++ [x] ++ gtR x.pfx (woR x.pfx l), 0) := by
    unfold putRt
    rw [if_neg (by simp [a1, a2])]
  rw [hx]
  generalize woR x.pfx l = W at *
  refine ⟨fun h1 => ⟨⟨by omega, by unfold maxLen; omega⟩, ?_⟩, fun h1 => ?_⟩
  · rw [if_pos (by omega)]
    refine EndZ.ret [2] (.tup [.row 2, .int .i64 8]) (by simp) ?_
    simp -implicitDefEqProofs
  rw [if_neg (by omega)]
  refine LoopK.nil (.sl 7 117 6) ?_
  simp -implicitDefEqProofs
  refine LoopK.os (fun k : Nat => [(3, .ptr 0 0), (6, .im (.sl 6 (W.map Route.iv))), (7, .row 1), (30, .im (.sl 6 (W.map Route.iv))), (31, .int .i64 W.length), (32, .int .i64 k)])
    (fun k => [.box 117 (x.iv.map .im), .row 117 6 ((ltR x.pfx (W.take k)).map Route.iv)])
    (fun k => k ≤ W.length) (fun k => W.length - k) 0 [0, 1] (Nat.zero_le _) (by simp [ltR_nil]) ?_
  intro k hk
  by_cases hlt : k < W.length
  · have e1 : IntKind.i64.wrap (k + 1) = (k + 1 : Nat) := wrap64 (by omega) (by omega)
    have g1 := ltR_take x.pfx W k hlt
    have b1 := ltR_len x.pfx (W.take k)
    rw [List.length_take] at b1
    have hls := lessP_spec W[k].pfx x.pfx
    simp -implicitDefEqProofs [hlt]
    first | refine CallK.same (hls) rfl rfl ?_ | refine CallQ.same (hls) rfl rfl ?_ | refine CallQG.same _ (hls) rfl ?_ | refine CallG.same _ (hls) rfl ?_ | refine CallK.pv (hls) rfl rfl ?_
    simp -implicitDefEqProofs
    refine ⟨fun h => ⟨⟨by omega, by unfold maxLen; omega⟩, ?_⟩, fun h => ?_⟩
    · rw [if_pos h] at g1
      refine Again.os (k + 1) [0, 4] hlt (by omega) ?_
      simp -implicitDefEqProofs [e1, g1]
    · rw [if_neg (by omega)] at g1
      refine Again.os (k + 1) [0, 1] hlt (by omega) ?_
      simp -implicitDefEqProofs [e1, g1]
  · have hkk : k = W.length := by omega
    subst hkk
    have b1 := ltR_len x.pfx W
    simp -implicitDefEqProofs
    refine ⟨⟨by omega, by unfold maxLen; omega⟩, ?_⟩
    refine LoopK.os (fun k : Nat => [(3, .ptr 0 0), (7, .row 1), (50, .im (.sl 6 (W.map Route.iv))), (51, .int .i64 W.length), (52, .int .i64 k)])
      (fun k => [.box 117 (x.iv.map .im), .row 117 6 ((ltR x.pfx W ++ [x] ++ gtR x.pfx (W.take k)).map Route.iv)])
      (fun k => k ≤ W.length) (fun k => W.length - k) 0 [0, 3] (Nat.zero_le _) (by simp [gtR_nil]) ?_
    clear hk hlt
    intro k hk
    by_cases hlt : k < W.length
    · have e1 : IntKind.i64.wrap (k + 1) = (k + 1 : Nat) := wrap64 (by omega) (by omega)
      have g1 := gtR_take x.pfx W k hlt
      have b2 := gtR_len x.pfx (W.take k)
      rw [List.length_take] at b2
      have hls := lessP_spec x.pfx W[k].pfx
      simp -implicitDefEqProofs [hlt]
      first | refine CallK.same (hls) rfl rfl ?_ | refine CallQ.same (hls) rfl rfl ?_ | refine CallQG.same _ (hls) rfl ?_ | refine CallG.same _ (hls) rfl ?_ | refine CallK.pv (hls) rfl rfl ?_
      simp -implicitDefEqProofs
      refine ⟨fun h => ⟨⟨by omega, by unfold maxLen; omega⟩, ?_⟩, fun h => ?_⟩
      · rw [if_pos h] at g1
        refine Again.os (k + 1) [0, 4] hlt (by omega) ?_
        simp -implicitDefEqProofs [e1, g1]
      · rw [if_neg (by omega)] at g1
        refine Again.os (k + 1) [0, 1] hlt (by omega) ?_
        simp -implicitDefEqProofs [e1, g1]
    · have hkk : k = W.length := by omega
      subst hkk
      simp -implicitDefEqProofs
      refine EndZ.ret [1] (.tup [.row 1, .int .i64 0]) (by simp) ?_
      simp -implicitDefEqProofs
def findW (p : Pfx) : List Route → Option Route
  | [] => none
  | r :: l => if sameP r.pfx p then some r else findW p l
def findRt (l : List Route) (p : Pfx) : Int := if ¬ checkR l = 0 ∨ ¬ checkP p = 0 then 2 else if (findW p l).isSome then 0 else 3
end Go.Am


set_option linter.unusedVariables false
set_option linter.unusedSimpArgs false
set_option pp.deepTerms false
set_option pp.deepTerms.threshold 40
namespace Go.Am
open Go.Proofs

def route0 : Route := ⟨⟨false, ⟨0, 0⟩, 0⟩, ⟨0, 0⟩⟩
def findR0 (l : List Route) (p : Pfx) : Route := if ¬ checkR l = 0 ∨ ¬ checkP p = 0 then route0 else (findW p l).getD route0
set_option maxRecDepth 8000 in
set_option maxHeartbeats 4000000 in
theorem findRtr_spec (l : List Route) (p : Pfx) (hl : l.length ≤ 100000000) (hwf : ∀ r ∈ l, r.pfx.addr.wf) (hpw : p.addr.wf) :
    FSpec Tryz.prog 217 [.im (.sl 6 (l.map Route.iv)), p.av] [] (.tup [(findR0 l p).av, .int .i64 (findRt l p)]) [] := by
  have hc := checkRr_spec l hwf
  have ho := checkPr_spec p hpw
  refine FSpec.of_z (q := []) Tryz.func217 (by kernel_rfl) rfl Tryz.ntmps217 Tryz.results217 hP (by kernel_rfl) (by simp) (by first | rfl | simp) ?_
  simp -implicitDefEqProofs
  first | refine CallK.same (hc) rfl rfl ?_ | refine CallQ.same (hc) rfl rfl ?_ | refine CallQG.same _ (hc) rfl ?_ | refine CallG.same _ (hc) rfl ?_ | refine CallK.pv (hc) rfl rfl ?_
  simp -implicitDefEqProofs
  first | refine CallK.same (ho) rfl rfl ?_ | refine CallQ.same (ho) rfl rfl ?_ | refine CallQG.same _ (ho) rfl ?_ | refine CallG.same _ (ho) rfl ?_ | refine CallK.pv (ho) rfl rfl ?_
  simp -implicitDefEqProofs
  refine ⟨fun h => ?_, fun a1 a2 => ?_⟩
  · refine EndZ.ret [] (.tup [route0.av, .int .i64 2]) (by simp [route0]) ?_
    simp [findR0, findRt, h]
  have hx : findR0 l p = (findW p l).getD route0 := by unfold findR0; rw [if_neg (by simp [a1, a2])]
  have hy : findRt l p = if (findW p l).isSome then 0 else 3 := by unfold findRt; rw [if_neg (by simp [a1, a2])]
  rw [hx, hy]
  refine LoopK.os (fun k : Nat => [(3, .ptr 0 0), (4, .ptr 1 0), (17, .im (.sl 6 (l.map Route.iv))), (18, .int .i64 l.length), (19, .int .i64 k)])
    (fun _ => [.box 34 [.bool p.six, .int .u64 p.addr.hi, .int .u64 p.addr.lo, .int .i64 p.len], .box 117 (route0.iv.map .im)])
    (fun k => k ≤ l.length ∧ findW p (l.drop k) = findW p l) (fun k => l.length - k) 0 [0, 1] ⟨Nat.zero_le _, by simp⟩ (by simp [route0]) ?_
  rintro k ⟨hk, hR⟩
  by_cases hlt : k < l.length
  · have e1 : IntKind.i64.wrap (k + 1) = (k + 1 : Nat) := wrap64 (by omega) (by omega)
    have hi := sameP_iff l[k].pfx p
    rw [List.drop_eq_getElem_cons hlt, findW] at hR
    simp -implicitDefEqProofs [hlt]
    refine ⟨fun h1 h2 h3 h4 => ?_, fun h => ?_⟩
    · rw [if_pos (hi.2 ⟨h1, h2, h3, h4⟩)] at hR
      refine EndZ.ret [] (.tup [l[k].av, .int .i64 0]) (by simp) ?_
      simp [← hR]
    · rw [if_neg (fun hs => by obtain ⟨h1, h2, h3, h4⟩ := hi.1 hs; exact h h1 h2 h3 h4)] at hR
      refine Again.os (k + 1) [0, 1] ⟨hlt, hR⟩ (by omega) ?_
      simp -implicitDefEqProofs [e1]
  · have hkk : k = l.length := by omega
    subst hkk
    rw [List.drop_length, findW] at hR
    simp -implicitDefEqProofs
    refine EndZ.ret [] (.tup [route0.av, .int .i64 3]) (by simp [route0]) ?_
    simp [← hR]
def delRt (l : List Route) (p : Pfx) : List Route × Int := if findRt l p = 2 then ([], 2) else (woR p l, findRt l p)
theorem delRtr_spec (l : List Route) (p : Pfx) (hl : l.length ≤ 100000000) (hwf : ∀ r ∈ l, r.pfx.addr.wf) (hpw : p.addr.wf) :
    FSpec Tryz.prog 171 [.im (.sl 6 (l.map Route.iv)), p.av] [] (.tup [.im (.sl 6 ((delRt l p).1.map Route.iv)), .int .i64 (delRt l p).2]) [] := by
  have hf := findRtr_spec l p hl hwf hpw
  have hw := without_spec l p hl
  refine FSpec.of_z (q := []) Tryz.func171 (by kernel_rfl) rfl Tryz.ntmps171 Tryz.results171 hP (by kernel_rfl) (by simp) (by first | rfl | simp) ?_
  simp -implicitDefEqProofs
  first | refine CallK.same (hf) rfl rfl ?_ | refine CallQ.same (hf) rfl rfl ?_ | refine CallQG.same _ (hf) rfl ?_ | refine CallG.same _ (hf) rfl ?_ | refine CallK.pv (hf) rfl rfl ?_
  simp -implicitDefEqProofs
  unfold delRt
  generalize findRt l p = w at *
  refine ⟨fun h => ?_, fun h => ?_⟩
  · refine EndZ.ret [] (.tup [.im (.sc (.slice none 0 0)), .int .i64 w]) (by simp) ?_
    simp [h]
  · first | refine CallK.same (hw) rfl rfl ?_ | refine CallQ.same (hw) rfl rfl ?_ | refine CallQG.same _ (hw) rfl ?_ | refine CallG.same _ (hw) rfl ?_ | refine CallK.pv (hw) rfl rfl ?_
    simp -implicitDefEqProofs
    refine EndZ.ret [] (.tup [.im (.sl 6 ((woR p l).map Route.iv)), .int .i64 w]) (by simp) ?_
    simp [h]
end Go.Am


set_option linter.unusedVariables false
set_option linter.unusedSimpArgs false
set_option pp.deepTerms false
set_option pp.deepTerms.threshold 40
namespace Go.Am
open Go.Proofs

def router0 : Router := ⟨0, false, [], []⟩
theorem copyR_spec (r : Router) (h1 : r.routes.length ≤ 100000000) (h2 : r.links.length ≤ 100000000) : FSpec Tryz.prog 85 [r.av] [] r.av [] := by
  refine FSpec.of_z (q := []) Tryz.func85 (by kernel_rfl) rfl Tryz.ntmps85 Tryz.results85 hP (by kernel_rfl) (by simp) (by first | rfl | simp) ?_
  simp -implicitDefEqProofs
  refine ⟨⟨by omega, by unfold maxLen; omega⟩, ⟨by omega, by unfold maxLen; omega⟩, ?_⟩
  refine EndZ.ret [3, 5] (.agg [.int .i64 r.id, .bool r.up, .row 3, .row 5]) (by simp) ?_
  simp -implicitDefEqProofs
def applyR (r : Router) (e : Ev) : Router × Int :=
  if routerOk r = false ∨ evOk e = false then (router0, 2)
  else if ¬ e.router = r.id then (r, 14)
  else if r.up = (e.kind == 1) then (r, 10)
  else if e.kind = 1 then (⟨r.id, true, r.routes, r.links⟩, 0)
  else if e.kind = 2 then (⟨r.id, false, [], []⟩, 0)
  else if e.kind = 3 then (if (putRt r.routes ⟨e.pfx, e.act⟩).2 = 0 then (⟨r.id, r.up, (putRt r.routes ⟨e.pfx, e.act⟩).1, r.links⟩, 0) else (r, (putRt r.routes ⟨e.pfx, e.act⟩).2))
  else if e.kind = 4 then (⟨r.id, r.up, (delRt r.routes e.pfx).1, r.links⟩, 0)
  else if e.kind = 5 then (if (putLk r.links ⟨e.iface, e.peer⟩).2 = 0 then (⟨r.id, r.up, r.routes, (putLk r.links ⟨e.iface, e.peer⟩).1⟩, 0) else (r, (putLk r.links ⟨e.iface, e.peer⟩).2))
  else (⟨r.id, r.up, r.routes, (delLk r.links e.iface).1⟩, 0)
theorem evOk_kind {e : Ev} (h : evOk e = true) : e.kind = 1 ∨ e.kind = 2 ∨ e.kind = 3 ∨ e.kind = 4 ∨ e.kind = 5 ∨ e.kind = 6 := by
  rcases kinds_of e.kind with h1 | h1 | h1 | h1 | h1 | h1 | ⟨k1, k2, k3, k4, k5, k6⟩
  all_goals first | (simp [h1]; done) | skip
  have : tailOk e = false := by simp [tailOk, k1, k2, k3, k4, k5, k6]
  simp [evOk, this] at h
theorem routerOk_len {r : Router} (h : routerOk r = true) : r.routes.length ≤ 256 ∧ r.links.length ≤ 32 := by
  unfold routerOk at h
  simp only [Bool.and_eq_true, beq_iff_eq] at h
  exact ⟨checkR_len h.1.2, checkL_len h.2⟩
set_option maxRecDepth 8000 in
set_option maxHeartbeats 4000000 in
theorem applyRr_spec (r : Router) (e : Ev) (hw : r.wf) (hew : e.pfx.addr.wf) :
    FSpec Tryz.prog 136 [r.av, e.av] [] (.tup [(applyR r e).1.av, .int .i64 (applyR r e).2]) [] := by
  have hc := checkFr_spec r hw
  have he := evOkr_spec e hew
  have hx1 : routerOk r = false ∨ evOk e = false → applyR r e = (router0, 2) := fun h => by unfold applyR; rw [if_pos h]
  have hx2 : routerOk r = true → evOk e = true → ¬ e.router = r.id → applyR r e = (r, 14) := fun h1 h2 h => by unfold applyR; rw [if_neg (by simp [h1, h2]), if_pos h]
  have hx3 : routerOk r = true → evOk e = true → e.router = r.id → r.up = (e.kind == 1) → applyR r e = (r, 10) := fun h1 h2 h3 h => by unfold applyR; rw [if_neg (by simp [h1, h2]), if_neg (by simp [h3]), if_pos h]
  have hx4 : routerOk r = true → evOk e = true → e.router = r.id → ¬ r.up = (e.kind == 1) → applyR r e =
    (if e.kind = 1 then (⟨r.id, true, r.routes, r.links⟩, 0)
    else if e.kind = 2 then (⟨r.id, false, [], []⟩, 0)
    else if e.kind = 3 then (if (putRt r.routes ⟨e.pfx, e.act⟩).2 = 0 then (⟨r.id, r.up, (putRt r.routes ⟨e.pfx, e.act⟩).1, r.links⟩, 0) else (r, (putRt r.routes ⟨e.pfx, e.act⟩).2))
    else if e.kind = 4 then (⟨r.id, r.up, (delRt r.routes e.pfx).1, r.links⟩, 0)
    else if e.kind = 5 then (if (putLk r.links ⟨e.iface, e.peer⟩).2 = 0 then (⟨r.id, r.up, r.routes, (putLk r.links ⟨e.iface, e.peer⟩).1⟩, 0) else (r, (putLk r.links ⟨e.iface, e.peer⟩).2))
    else (⟨r.id, r.up, r.routes, (delLk r.links e.iface).1⟩, 0)) := fun h1 h2 h3 h => by unfold applyR; rw [if_neg (by simp [h1, h2]), if_neg (by simp [h3]), if_neg h]
  generalize applyR r e = RES at *
  refine FSpec.of_z (q := []) Tryz.func136 (by kernel_rfl) rfl Tryz.ntmps136 Tryz.results136 hP (by kernel_rfl) (by simp) (by first | rfl | simp) ?_
  simp -implicitDefEqProofs
  first | refine CallK.same (hc) rfl rfl ?_ | refine CallQ.same (hc) rfl rfl ?_ | refine CallQG.same _ (hc) rfl ?_ | refine CallG.same _ (hc) rfl ?_ | refine CallK.pv (hc) rfl rfl ?_
  simp -implicitDefEqProofs
  first | refine CallK.same (he) rfl rfl ?_ | refine CallQ.same (he) rfl rfl ?_ | refine CallQG.same _ (he) rfl ?_ | refine CallG.same _ (he) rfl ?_ | refine CallK.pv (he) rfl rfl ?_
  simp -implicitDefEqProofs
  refine ⟨fun h => ?_, fun a1 a2 => ?_⟩
  · refine EndZ.ret [] (.tup [.agg [.int .i64 0, .bool false, .im (.sc (.slice none 0 0)), .im (.sc (.slice none 0 0))], .int .i64 2]) (by simp) ?_
    simp [hx1 h, router0]
  obtain ⟨l1, l2⟩ := routerOk_len a1
  have hcp := copyR_spec r (by omega) (by omega)
  first | refine CallK.same (hcp) rfl rfl ?_ | refine CallQ.same (hcp) rfl rfl ?_ | refine CallQG.same _ (hcp) rfl ?_ | refine CallG.same _ (hcp) rfl ?_ | refine CallK.pv (hcp) rfl rfl ?_
  simp -implicitDefEqProofs
  refine ⟨fun h => ?_, fun a3 => ⟨fun h => ?_, fun a4 => ?_⟩⟩
  · refine EndZ.ret [] (.tup [r.av, .int .i64 14]) (by simp) ?_
    simp [hx2 a1 a2 h]
  · refine EndZ.ret [] (.tup [r.av, .int .i64 10]) (by simp) ?_
    simp [hx3 a1 a2 a3 h]
  have hR := hx4 a1 a2 a3 a4
  clear hx1 hx2 hx3 hx4
  rcases evOk_kind a2 with hk | hk | hk | hk | hk | hk
  · simp only [hk] at hR
    simp -implicitDefEqProofs [hk]
    refine EndZ.ret [] (.tup [(⟨r.id, true, r.routes, r.links⟩ : Router).av, .int .i64 0]) (by simp) ?_
    simp [hR]
  · simp only [hk] at hR
    simp -implicitDefEqProofs [hk]
    refine EndZ.ret [] (.tup [.agg [.int .i64 r.id, .bool false, .im (.sc (.slice none 0 0)), .im (.sc (.slice none 0 0))], .int .i64 0]) (by simp) ?_
    simp [hR]
  · simp only [hk] at hR
    have hp := putRtr_spec r.routes ⟨e.pfx, e.act⟩ (by omega) hw hew
    simp -implicitDefEqProofs [hk]
    generalize putRt r.routes ⟨e.pfx, e.act⟩ = RS at *
    first | refine CallK.same (hp) rfl rfl ?_ | refine CallQ.same (hp) rfl rfl ?_ | refine CallQG.same _ (hp) rfl ?_ | refine CallG.same _ (hp) rfl ?_ | refine CallK.pv (hp) rfl rfl ?_
    simp -implicitDefEqProofs
    refine ⟨fun h => ?_, fun h => ?_⟩
    · refine EndZ.ret [] (.tup [r.av, .int .i64 RS.2]) (by simp) ?_
      simp [hR, h]
    · refine EndZ.ret [] (.tup [(⟨r.id, r.up, RS.1, r.links⟩ : Router).av, .int .i64 0]) (by simp) ?_
      simp [hR, h]
  · simp only [hk] at hR
    have hp := delRtr_spec r.routes e.pfx (by omega) hw hew
    simp -implicitDefEqProofs [hk]
    generalize delRt r.routes e.pfx = RS at *
    first | refine CallK.same (hp) rfl rfl ?_ | refine CallQ.same (hp) rfl rfl ?_ | refine CallQG.same _ (hp) rfl ?_ | refine CallG.same _ (hp) rfl ?_ | refine CallK.pv (hp) rfl rfl ?_
    simp -implicitDefEqProofs
    refine EndZ.ret [] (.tup [(⟨r.id, r.up, RS.1, r.links⟩ : Router).av, .int .i64 0]) (by simp) ?_
    simp [hR]
  · simp only [hk] at hR
    have hp := putLr_spec r.links ⟨e.iface, e.peer⟩ (by omega)
    simp -implicitDefEqProofs [hk]
    generalize putLk r.links ⟨e.iface, e.peer⟩ = RS at *
    first | refine CallK.same (hp) rfl rfl ?_ | refine CallQ.same (hp) rfl rfl ?_ | refine CallQG.same _ (hp) rfl ?_ | refine CallG.same _ (hp) rfl ?_ | refine CallK.pv (hp) rfl rfl ?_
    simp -implicitDefEqProofs
    refine ⟨fun h => ?_, fun h => ?_⟩
    · refine EndZ.ret [] (.tup [r.av, .int .i64 RS.2]) (by simp) ?_
      simp [hR, h]
    · refine EndZ.ret [] (.tup [(⟨r.id, r.up, r.routes, RS.1⟩ : Router).av, .int .i64 0]) (by simp) ?_
      simp [hR, h]
  · simp only [hk] at hR
    have hp := delLr_spec r.links e.iface (by omega)
    simp -implicitDefEqProofs [hk]
    generalize delLk r.links e.iface = RS at *
    first | refine CallK.same (hp) rfl rfl ?_ | refine CallQ.same (hp) rfl rfl ?_ | refine CallQG.same _ (hp) rfl ?_ | refine CallG.same _ (hp) rfl ?_ | refine CallK.pv (hp) rfl rfl ?_
    simp -implicitDefEqProofs
    refine EndZ.ret [] (.tup [(⟨r.id, r.up, r.routes, RS.1⟩ : Router).av, .int .i64 0]) (by simp) ?_
    simp [hR]
end Go.Am


set_option linter.unusedVariables false
set_option linter.unusedSimpArgs false
set_option pp.deepTerms false
set_option pp.deepTerms.threshold 40
namespace Go.Am
open Go.Proofs

theorem makeRr_spec (i : Int) : FSpec Tryz.prog 135 [.int .i64 i] [] (.tup [.agg [.int .i64 (if idOk i then i else 0), .bool false, .im (.sl 6 []), .im (.sl 2 [])], .int .i64 (if idOk i then 0 else 1)]) [] := by
  refine FSpec.of_z (q := []) Tryz.func135 (by kernel_rfl) rfl Tryz.ntmps135 Tryz.results135 hP (by kernel_rfl) (by simp) (by first | rfl | simp) ?_
  simp -implicitDefEqProofs
  refine ⟨fun h => ?_, fun h1 h2 => ?_⟩
  · have : idOk i = false := by unfold idOk; grind
    refine EndZ.ret [] (.tup [.agg [.int .i64 0, .bool false, .im (.sc (.slice none 0 0)), .im (.sc (.slice none 0 0))], .int .i64 1]) (by simp) ?_
    simp [this]
  · have : idOk i = true := by unfold idOk; grind
    refine EndZ.ret [] (.tup [.agg [.int .i64 i, .bool false, .im (.sc (.slice none 0 0)), .im (.sc (.slice none 0 0))], .int .i64 0]) (by simp) ?_
    simp [this]
set_option maxRecDepth 8000 in
set_option maxHeartbeats 2000000 in
theorem copyN_spec (n : Net) (h1 : n.seats.length ≤ 100000000) (h2 : n.routers.length ≤ 100000000) (h3 : ∀ r ∈ n.routers, r.routes.length ≤ 100000000 ∧ r.links.length ≤ 100000000) :
    FSpec Tryz.prog 49 [n.av] [] n.av [] := by
  refine FSpec.of_z (q := [(5, .m [.p [1, 2], .p [1, 2], .p [], .e [20], .e [21]])]) Tryz.func49 (by kernel_rfl) rfl Tryz.ntmps49 Tryz.results49 hP (by kernel_rfl) (by simp) (by first | rfl | simp) ?_
  simp -implicitDefEqProofs
  refine ⟨⟨by omega, by unfold maxLen; omega⟩, ?_⟩
  refine LoopK.nil (.cl 4 1 85 4) ?_
  simp -implicitDefEqProofs
  refine LoopK.os (fun k : Nat => [(2, .ptr 0 0), (3, .ptr 1 0), (12, .im (.sl 4 (n.routers.map Router.iv))), (13, .int .i64 n.routers.length), (14, .int .i64 k)])
    (fun k => [.box 25 [.im (.sc (.slice none 0 0)), .im (.sc (.slice none 0 0))], .box 25 [.row 2, .row 3], .row 65 4 (n.seats.map Seat.iv), .row 85 4 ((n.routers.take k).map Router.iv)])
    (fun k => k ≤ n.routers.length) (fun k => n.routers.length - k) 0 [1, 4, 3, 5] (Nat.zero_le _) (by simp) ?_
  intro k hk
  by_cases hlt : k < n.routers.length
  · have e1 : IntKind.i64.wrap (k + 1) = (k + 1 : Nat) := wrap64 (by omega) (by omega)
    obtain ⟨r, hr⟩ : ∃ r, n.routers[k] = r := ⟨_, rfl⟩
    have hm : r ∈ n.routers := by rw [← hr]; exact List.getElem_mem _
    obtain ⟨g1, g2⟩ := h3 r hm
    have hcp := copyR_spec r g1 g2
    have htk : n.routers.take (k + 1) = n.routers.take k ++ [r] := by
      rw [List.take_add_one, List.getElem?_eq_getElem hlt, hr]; rfl
    simp -implicitDefEqProofs [hlt, hr]
    first | refine CallK.same (hcp) rfl rfl ?_ | refine CallQ.same (hcp) rfl rfl ?_ | refine CallQG.same _ (hcp) rfl ?_ | refine CallG.same _ (hcp) rfl ?_ | refine CallK.pv (hcp) rfl rfl ?_
    simp -implicitDefEqProofs
    have htk' : List.take (k + 1) (n.routers.map Router.iv) = List.take k (n.routers.map Router.iv) ++ [r.iv] := by rw [← List.map_take, htk, List.map_append, List.map_take]; rfl
    refine ⟨⟨by omega, by unfold maxLen; omega⟩, ?_⟩
    refine Again.os (k + 1) [0, 1, 2, 6] hlt (by omega) ?_
    simp -implicitDefEqProofs [e1, htk']
  · have hkk : k = n.routers.length := by omega
    subst hkk
    simp -implicitDefEqProofs
    refine EndZ.ret [2, 3] (.agg [.row 2, .row 3]) (by simp) ?_
    simp -implicitDefEqProofs
end Go.Am


set_option linter.unusedVariables false
set_option linter.unusedSimpArgs false
set_option pp.deepTerms false
set_option pp.deepTerms.threshold 40
namespace Go.Am
open Go.Proofs

def mineN (n : Net) (e : Ev) : Router := match routerF n.routers e.router with
  | some r => r
  | none => ⟨if idOk e.router then e.router else 0, false, [], []⟩
def afterN (n : Net) (e : Ev) (hz : Int) (mine : Router) (s : Seat) : Router := if s.router = e.router then mine else (routerF n.routers s.router).getD ⟨0, false, [], []⟩
def netAfter (n : Net) (e : Ev) (hz : Int) : Net := ⟨(nextS n.seats e hz).1, (nextS n.seats e hz).1.map (afterN n e hz (applyR (mineN n e) e).1)⟩
def happensF (n : Net) (e : Ev) (hz : Int) : Net × Int :=
  if ¬ mayS n.seats e hz = 0 then (n, mayS n.seats e hz)
  else if ¬ (applyR (mineN n e) e).2 = 0 then (n, (applyR (mineN n e) e).2)
  else if 1024 < many (netAfter n e hz).routers 0 then (n, 8)
  else (netAfter n e hz, 0)
theorem mineN_wf {n : Net} {e : Ev} (hw : n.wf) : (mineN n e).wf := by
  unfold mineN
  split
  · rename_i r h; exact hw r (List.mem_of_find?_eq_some h)
  · intro x hx; cases hx
def rowsA (n : Net) (e : Ev) (hz : Int) (mine : Router) (l : List Seat) : List (List IV) := (l.map (afterN n e hz mine)).map Router.iv
theorem rowsA_nil (n : Net) (e : Ev) (hz : Int) (mine : Router) : rowsA n e hz mine [] = [] := rfl
@[simp] theorem rowsA_len (n : Net) (e : Ev) (hz : Int) (mine : Router) (l : List Seat) : (rowsA n e hz mine l).length = l.length := by simp [rowsA]
theorem rowsA_take (n : Net) (e : Ev) (hz : Int) (mine : Router) (l : List Seat) (k : Nat) (h : k < l.length) : rowsA n e hz mine (l.take (k + 1)) = rowsA n e hz mine (l.take k) ++ [(afterN n e hz mine l[k]).iv] := by
  unfold rowsA
  rw [List.take_add_one, List.getElem?_eq_getElem h]
  simp only [List.map_append, Option.toList_some, List.map_cons, List.map_nil]
theorem putSeat_len (l : List Seat) (s : Seat) : (putSeat l s).length ≤ 2 * l.length + 1 := by
  have h1 := List.length_filter_le (fun x : Seat => decide (x.router < s.router)) l
  have h2 := List.length_filter_le (fun x : Seat => decide (s.router < x.router)) l
  unfold putSeat
  simp
  omega
theorem nextS_len (l : List Seat) (e : Ev) (hz : Int) : (nextS l e hz).1.length ≤ 2 * l.length + 1 := by
  unfold nextS
  repeat' split
  · simp
  · simp; omega
  · exact putSeat_len _ _
set_option maxRecDepth 8000 in
set_option maxHeartbeats 2000000 in
theorem happens_spec (n : Net) (e : Ev) (hz : Int) (hw : n.wf) (hew : e.pfx.addr.wf) (hl : n.seats.length ≤ 100000) :
    FSpec Tryz.prog 95 [n.av, e.av, .int .i64 hz] [] (.tup [(happensF n e hz).1.av, .int .i64 (happensF n e hz).2]) [] := by
  have h1 := mayR_spec n.seats e hz hew
  have h2 := findr_spec n e.router
  have h3 := makeRr_spec e.router
  have h4 := applyRr_spec (mineN n e) e (mineN_wf hw) hew
  have h5 := nextR_spec n.seats e hz hew (by omega)
  have hnl := nextS_len n.seats e hz
  have hx : happensF n e hz = (if ¬ mayS n.seats e hz = 0 then (n, mayS n.seats e hz)
  else if ¬ (applyR (mineN n e) e).2 = 0 then (n, (applyR (mineN n e) e).2)
  else if 1024 < many ((nextS n.seats e hz).1.map (afterN n e hz (applyR (mineN n e) e).1)) 0 then (n, 8)
  else (⟨(nextS n.seats e hz).1, (nextS n.seats e hz).1.map (afterN n e hz (applyR (mineN n e) e).1)⟩, 0)) := rfl
  generalize happensF n e hz = RES at *
  generalize applyR (mineN n e) e = AR at *
  generalize nextS n.seats e hz = NX at *
  refine FSpec.of_z (q := []) Tryz.func95 (by kernel_rfl) rfl Tryz.ntmps95 Tryz.results95 hP (by kernel_rfl) (by simp) (by first | rfl | simp) ?_
  simp -implicitDefEqProofs
  first | refine CallK.same (h1) rfl rfl ?_ | refine CallQ.same (h1) rfl rfl ?_ | refine CallQG.same _ (h1) rfl ?_ | refine CallG.same _ (h1) rfl ?_ | refine CallK.pv (h1) rfl rfl ?_
  simp -implicitDefEqProofs
  refine ⟨fun h => ?_, fun a1 => ?_⟩
  · rw [if_pos h] at hx
    refine EndZ.ret [] (.tup [n.av, .int .i64 (mayS n.seats e hz)]) (by simp) ?_
    simp [hx]
  rw [if_neg (by simp [a1])] at hx
  first | refine CallK.same (h2) rfl rfl ?_ | refine CallQ.same (h2) rfl rfl ?_ | refine CallQG.same _ (h2) rfl ?_ | refine CallG.same _ (h2) rfl ?_ | refine CallK.pv (h2) rfl rfl ?_
  simp -implicitDefEqProofs
  unfold mineN at h4
  cases hr : routerF n.routers e.router with
  | none =>
    simp only [hr] at h4
    simp -implicitDefEqProofs
    first | refine CallK.same (h3) rfl rfl ?_ | refine CallQ.same (h3) rfl rfl ?_ | refine CallQG.same _ (h3) rfl ?_ | refine CallG.same _ (h3) rfl ?_ | refine CallK.pv (h3) rfl rfl ?_
    simp -implicitDefEqProofs
    first | refine CallK.same (h4) rfl rfl ?_ | refine CallQ.same (h4) rfl rfl ?_ | refine CallQG.same _ (h4) rfl ?_ | refine CallG.same _ (h4) rfl ?_ | refine CallK.pv (h4) rfl rfl ?_
    simp -implicitDefEqProofs
    refine ⟨fun h => ?_, fun b1 => ?_⟩
    · rw [if_pos h] at hx
      refine EndZ.ret [] (.tup [n.av, .int .i64 AR.2]) (by simp) ?_
      simp [hx]
    rw [if_neg (by simp [b1])] at hx
    first | refine CallK.same (h5) rfl rfl ?_ | refine CallQ.same (h5) rfl rfl ?_ | refine CallQG.same _ (h5) rfl ?_ | refine CallG.same _ (h5) rfl ?_ | refine CallK.pv (h5) rfl rfl ?_
    simp -implicitDefEqProofs
    refine LoopK.nil (.cl 4 1 85 4) ?_
    simp -implicitDefEqProofs
    refine LoopK.os (fun k : Nat => [(3, .ptr 0 0), (4, .ptr 1 0), (6, .ptr 2 0), (9, .ptr 3 0), (14, .ptr 4 0), (63, .im (.sl 4 (NX.1.map Seat.iv))), (64, .int .i64 NX.1.length), (65, .int .i64 k)])
      (fun k => [.box 25 [.im (.sl 4 (n.seats.map Seat.iv)), .im (.sl 4 (n.routers.map Router.iv))], .box 39 (e.iv.map .im), .box 25 [.im (.sc (.slice none 0 0)), .im (.sc (.slice none 0 0))],
        .box 85 [.int .i64 AR.1.id, .bool AR.1.up, .im (.sl 6 (AR.1.routes.map Route.iv)), .im (.sl 2 (AR.1.links.map Link.iv))], .box 25 [.im (.sl 4 (NX.1.map Seat.iv)), .row 5], .row 85 4 (rowsA n e hz AR.1 (NX.1.take k))])
      (fun k => k ≤ NX.1.length) (fun k => NX.1.length - k) 0 [0, 1, 2, 3, 4, 5] (Nat.zero_le _) (by simp [rowsA_nil]) ?_
    intro k hk
    by_cases hlt : k < NX.1.length
    · have e1 : IntKind.i64.wrap (k + 1) = (k + 1 : Nat) := wrap64 (by omega) (by omega)
      obtain ⟨t, ht⟩ : ∃ t, NX.1[k] = t := ⟨_, rfl⟩
      have h6 := findr_spec n t.router
      have htk := rowsA_take n e hz AR.1 NX.1 k hlt
      rw [ht] at htk
      simp -implicitDefEqProofs [hlt, ht]
      first | refine CallK.same (h6) rfl rfl ?_ | refine CallQ.same (h6) rfl rfl ?_ | refine CallQG.same _ (h6) rfl ?_ | refine CallG.same _ (h6) rfl ?_ | refine CallK.pv (h6) rfl rfl ?_
      simp -implicitDefEqProofs
      refine ⟨fun h => ⟨⟨by omega, by unfold maxLen; omega⟩, ?_⟩, fun h => ⟨⟨by omega, by unfold maxLen; omega⟩, ?_⟩⟩
      · have hat : afterN n e hz AR.1 t = AR.1 := by unfold afterN; rw [if_pos h]
        rw [hat] at htk
        refine Again.os (k + 1) [0, 1, 2, 3, 4, 9] hlt (by omega) ?_
        simp -implicitDefEqProofs [e1, htk]
      · have hat : afterN n e hz AR.1 t = (routerF n.routers t.router).getD ⟨0, false, [], []⟩ := by unfold afterN; rw [if_neg h]
        rw [hat] at htk
        refine Again.os (k + 1) [0, 1, 2, 3, 4, 9] hlt (by omega) ?_
        simp -implicitDefEqProofs [e1, htk]
    · have hkk : k = NX.1.length := by omega
      subst hkk
      have hmany : FSpec Tryz.prog 132 [.im (.sl 4 (rowsA n e hz AR.1 NX.1))] [] (.int .i64 (many (NX.1.map (afterN n e hz AR.1)) 0)) [] := manyr_spec _
      generalize many (NX.1.map (afterN n e hz AR.1)) 0 = mm at *
      simp -implicitDefEqProofs
      refine CallX.pre (.fz [5]) ?_
      simp -implicitDefEqProofs
      refine CallK.v0 hmany rfl (by simp) rfl ?_
      simp -implicitDefEqProofs
      refine ⟨fun h => ?_, fun h => ?_⟩
      · rw [if_pos h] at hx
        refine EndZ.ret [] (.tup [n.av, .int .i64 8]) (by simp) ?_
        simp -implicitDefEqProofs [hx]
      · rw [if_neg (by omega)] at hx
        refine EndZ.ret [5] (.tup [.agg [.im (.sl 4 (NX.1.map Seat.iv)), .row 5], .int .i64 0]) (by simp) ?_
        simp -implicitDefEqProofs [hx, rowsA]
  | some r =>
    simp only [hr] at h4
    simp -implicitDefEqProofs
    first | refine CallK.same (h4) rfl rfl ?_ | refine CallQ.same (h4) rfl rfl ?_ | refine CallQG.same _ (h4) rfl ?_ | refine CallG.same _ (h4) rfl ?_ | refine CallK.pv (h4) rfl rfl ?_
    simp -implicitDefEqProofs
    refine ⟨fun h => ?_, fun b1 => ?_⟩
    · rw [if_pos h] at hx
      refine EndZ.ret [] (.tup [n.av, .int .i64 AR.2]) (by simp) ?_
      simp [hx]
    rw [if_neg (by simp [b1])] at hx
    first | refine CallK.same (h5) rfl rfl ?_ | refine CallQ.same (h5) rfl rfl ?_ | refine CallQG.same _ (h5) rfl ?_ | refine CallG.same _ (h5) rfl ?_ | refine CallK.pv (h5) rfl rfl ?_
    simp -implicitDefEqProofs
    refine LoopK.nil (.cl 4 1 85 4) ?_
    simp -implicitDefEqProofs
    refine LoopK.os (fun k : Nat => [(3, .ptr 0 0), (4, .ptr 1 0), (6, .ptr 2 0), (9, .ptr 3 0), (14, .ptr 4 0), (63, .im (.sl 4 (NX.1.map Seat.iv))), (64, .int .i64 NX.1.length), (65, .int .i64 k)])
      (fun k => [.box 25 [.im (.sl 4 (n.seats.map Seat.iv)), .im (.sl 4 (n.routers.map Router.iv))], .box 39 (e.iv.map .im), .box 25 [.im (.sc (.slice none 0 0)), .im (.sc (.slice none 0 0))],
        .box 85 [.int .i64 AR.1.id, .bool AR.1.up, .im (.sl 6 (AR.1.routes.map Route.iv)), .im (.sl 2 (AR.1.links.map Link.iv))], .box 25 [.im (.sl 4 (NX.1.map Seat.iv)), .row 5], .row 85 4 (rowsA n e hz AR.1 (NX.1.take k))])
      (fun k => k ≤ NX.1.length) (fun k => NX.1.length - k) 0 [0, 1, 2, 3, 4, 5] (Nat.zero_le _) (by simp [rowsA_nil]) ?_
    intro k hk
    by_cases hlt : k < NX.1.length
    · have e1 : IntKind.i64.wrap (k + 1) = (k + 1 : Nat) := wrap64 (by omega) (by omega)
      obtain ⟨t, ht⟩ : ∃ t, NX.1[k] = t := ⟨_, rfl⟩
      have h6 := findr_spec n t.router
      have htk := rowsA_take n e hz AR.1 NX.1 k hlt
      rw [ht] at htk
      simp -implicitDefEqProofs [hlt, ht]
      first | refine CallK.same (h6) rfl rfl ?_ | refine CallQ.same (h6) rfl rfl ?_ | refine CallQG.same _ (h6) rfl ?_ | refine CallG.same _ (h6) rfl ?_ | refine CallK.pv (h6) rfl rfl ?_
      simp -implicitDefEqProofs
      refine ⟨fun h => ⟨⟨by omega, by unfold maxLen; omega⟩, ?_⟩, fun h => ⟨⟨by omega, by unfold maxLen; omega⟩, ?_⟩⟩
      · have hat : afterN n e hz AR.1 t = AR.1 := by unfold afterN; rw [if_pos h]
        rw [hat] at htk
        refine Again.os (k + 1) [0, 1, 2, 3, 4, 9] hlt (by omega) ?_
        simp -implicitDefEqProofs [e1, htk]
      · have hat : afterN n e hz AR.1 t = (routerF n.routers t.router).getD ⟨0, false, [], []⟩ := by unfold afterN; rw [if_neg h]
        rw [hat] at htk
        refine Again.os (k + 1) [0, 1, 2, 3, 4, 9] hlt (by omega) ?_
        simp -implicitDefEqProofs [e1, htk]
    · have hkk : k = NX.1.length := by omega
      subst hkk
      have hmany : FSpec Tryz.prog 132 [.im (.sl 4 (rowsA n e hz AR.1 NX.1))] [] (.int .i64 (many (NX.1.map (afterN n e hz AR.1)) 0)) [] := manyr_spec _
      generalize many (NX.1.map (afterN n e hz AR.1)) 0 = mm at *
      simp -implicitDefEqProofs
      refine CallX.pre (.fz [5]) ?_
      simp -implicitDefEqProofs
      refine CallK.v0 hmany rfl (by simp) rfl ?_
      simp -implicitDefEqProofs
      refine ⟨fun h => ?_, fun h => ?_⟩
      · rw [if_pos h] at hx
        refine EndZ.ret [] (.tup [n.av, .int .i64 8]) (by simp) ?_
        simp -implicitDefEqProofs [hx]
      · rw [if_neg (by omega)] at hx
        refine EndZ.ret [5] (.tup [.agg [.im (.sl 4 (NX.1.map Seat.iv)), .row 5], .int .i64 0]) (by simp) ?_
        simp -implicitDefEqProofs [hx, rowsA]
end Go.Am


set_option linter.unusedVariables false
set_option linter.unusedSimpArgs false
set_option pp.deepTerms false
set_option pp.deepTerms.threshold 40
namespace Go.Am
open Go.Proofs

def applyN (n : Net) (e : Ev) (hz : Int) : Net × Int :=
  if netOk n = false then (⟨[], []⟩, 2)
  else if (happensF n e hz).2 = 2 ∨ (happensF n e hz).2 = 1 then (⟨[], []⟩, (happensF n e hz).2)
  else happensF n e hz
theorem netOk_seats {n : Net} (h : netOk n = true) : n.seats.length ≤ 64 := by
  unfold netOk at h
  simp only [Bool.and_eq_true, beq_iff_eq] at h
  exact checkS_len h.1.1.1
theorem copyOk_spec (n : Net) (h : netOk n = true) : FSpec Tryz.prog 49 [n.av] [] n.av [] := by
  have h1 := netOk_seats h
  have h2 := netOk_len h
  have h3 := (netOk_routers h).2
  refine copyN_spec n (by omega) (by omega) fun r hr => ?_
  have := routerOk_len (h3 r hr)
  omega
end Go.Am


set_option linter.unusedVariables false
set_option linter.unusedSimpArgs false
set_option pp.deepTerms false
set_option pp.deepTerms.threshold 40
namespace Go.Am
open Go.Proofs

theorem putRt_wf {l : List Route} {x : Route} (hl : ∀ r ∈ l, r.pfx.addr.wf) (hx : x.pfx.addr.wf) : ∀ r ∈ (putRt l x).1, r.pfx.addr.wf := by
  unfold putRt
  intro r hr
  split at hr
  · cases hr
  · split at hr
    · exact hl r hr
    · simp only [List.mem_append, List.mem_singleton, ltR, gtR, woR, List.mem_filter] at hr
      rcases hr with (hr | rfl) | hr
      · exact hl r hr.1.1
      · exact hx
      · exact hl r hr.1.1
theorem delRt_wf {l : List Route} {p : Pfx} (hl : ∀ r ∈ l, r.pfx.addr.wf) : ∀ r ∈ (delRt l p).1, r.pfx.addr.wf := by
  unfold delRt
  intro r hr
  split at hr
  · cases hr
  · simp only [woR, List.mem_filter] at hr
    exact hl r hr.1
theorem applyR_wf {r : Router} {e : Ev} (hw : r.wf) (he : e.pfx.addr.wf) : (applyR r e).1.wf := by
  unfold applyR Router.wf
  repeat' split
  all_goals first
    | exact hw
    | (intro x hx; cases hx; done)
    | exact putRt_wf hw he
    | exact delRt_wf hw
theorem happensF_wf {n : Net} {e : Ev} {hz : Int} (hw : n.wf) (he : e.pfx.addr.wf) : (happensF n e hz).1.wf := by
  unfold happensF
  repeat' split
  all_goals first
    | exact hw
    | skip
  intro r hr
  simp only [netAfter, List.mem_map] at hr
  obtain ⟨s, _, rfl⟩ := hr
  unfold afterN
  split
  · exact applyR_wf (mineN_wf hw) he
  · cases h : routerF n.routers s.router with
    | none => intro x hx; cases hx
    | some r => exact hw r (List.mem_of_find?_eq_some h)
theorem happensF_len {n : Net} {e : Ev} {hz : Int} (h : n.seats.length ≤ 129) : (happensF n e hz).1.seats.length ≤ 129 := by
  unfold happensF
  repeat' split
  all_goals first
    | exact h
    | skip
  rename_i h0 _ _
  have hc : checkS n.seats = 0 := by
    apply Classical.byContradiction
    intro hn
    apply h0
    intro hm
    unfold mayS at hm
    rw [if_pos (.inl hn)] at hm
    cases hm
  have := checkS_len hc
  have := nextS_len n.seats e hz
  show (nextS n.seats e hz).1.length ≤ 129
  omega
def allGo (hz : Int) : List Ev → Net → Int → Net × Int × Int
  | [], n, i => (n, i, 0)
  | e :: l, n, i => if (happensF n e hz).2 = 0 then allGo hz l (happensF n e hz).1 (i + 1) else (n, i, (happensF n e hz).2)
def allN (n : Net) (l : List Ev) (hz : Int) : Net × Int × Int := if netOk n = false then (⟨[], []⟩, 0, 2) else allGo hz l n 0
set_option maxRecDepth 8000 in
set_option maxHeartbeats 2000000 in
theorem allNr_spec (n : Net) (l : List Ev) (hz : Int) (hw : n.wf) (hew : ∀ e ∈ l, e.pfx.addr.wf) :
    FSpec Tryz.prog 94 [n.av, .im (.sl 12 (l.map Ev.iv)), .int .i64 hz] [] (.tup [(allN n l hz).1.av, .int .i64 (allN n l hz).2.1, .int .i64 (allN n l hz).2.2]) [] := by
  refine FSpec.bd (enters_of Tryz.func94 (by kernel_rfl) rfl) fun hbd => ?_
  have hl : l.length ≤ 9223372036854775807 := by simp [maxLen] at hbd; exact hbd.2
  clear hbd
  have h1 := checkNr_spec n hw
  refine FSpec.of_z (q := []) Tryz.func94 (by kernel_rfl) rfl Tryz.ntmps94 Tryz.results94 hP (by kernel_rfl) (by simp) (by first | rfl | simp) ?_
  simp -implicitDefEqProofs
  first | refine CallK.same (h1) rfl rfl ?_ | refine CallQ.same (h1) rfl rfl ?_ | refine CallQG.same _ (h1) rfl ?_ | refine CallG.same _ (h1) rfl ?_ | refine CallK.pv (h1) rfl rfl ?_
  simp -implicitDefEqProofs
  unfold allN
  cases hn : netOk n with
  | false =>
    simp -implicitDefEqProofs
    refine EndZ.ret [] (.tup [.agg [.im (.sc (.slice none 0 0)), .im (.sc (.slice none 0 0))], .int .i64 0, .int .i64 2]) (by simp) ?_
    simp -implicitDefEqProofs
  | true =>
    have h2 := copyOk_spec n hn
    have hs := netOk_seats hn
    simp -implicitDefEqProofs
    first | refine CallK.same (h2) rfl rfl ?_ | refine CallQ.same (h2) rfl rfl ?_ | refine CallQG.same _ (h2) rfl ?_ | refine CallG.same _ (h2) rfl ?_ | refine CallK.pv (h2) rfl rfl ?_
    simp -implicitDefEqProofs
    generalize hRES : allGo hz l n 0 = RES at *
    refine LoopK.os (fun g : Nat × Net => [(1, .im (.sl 12 (l.map Ev.iv))), (2, .int .i64 hz), (3, .ptr 0 0), (6, .ptr 1 0), (19, .im (.sl 12 (l.map Ev.iv))), (20, .int .i64 l.length), (21, .int .i64 g.1)])
      (fun g => [.box 25 [.im (.sl 4 (g.2.seats.map Seat.iv)), .im (.sl 4 (g.2.routers.map Router.iv))], .box 25 [.im (.sc (.slice none 0 0)), .im (.sc (.slice none 0 0))]])
      (fun g => g.1 ≤ l.length ∧ g.2.wf ∧ g.2.seats.length ≤ 129 ∧ allGo hz (l.drop g.1) g.2 g.1 = RES) (fun g => l.length - g.1) (0, n) [0, 1] ⟨Nat.zero_le _, hw, by show n.seats.length ≤ 129; omega, by simpa using hRES⟩ (by simp) ?_
    rintro ⟨k, N⟩ ⟨hk, hNw, hNl, hR⟩
    simp only at hk hNw hNl hR
    by_cases hlt : k < l.length
    · have e1 : IntKind.i64.wrap (k + 1) = (k + 1 : Nat) := wrap64 (by omega) (by omega)
      rw [List.drop_eq_getElem_cons hlt, allGo] at hR
      have hem := hew l[k] (List.getElem_mem _)
      generalize hE : l[k] = E at *
      have h3 := happens_spec N E hz hNw hem (by omega)
      have hw2 := happensF_wf (hz := hz) hNw hem
      have hl2 := happensF_len (e := E) (hz := hz) hNl
      generalize happensF N E hz = HS at *
      simp -implicitDefEqProofs [hlt, hE]
      first | refine CallK.same (h3) rfl rfl ?_ | refine CallQ.same (h3) rfl rfl ?_ | refine CallQG.same _ (h3) rfl ?_ | refine CallG.same _ (h3) rfl ?_ | refine CallK.pv (h3) rfl rfl ?_
      simp -implicitDefEqProofs
      refine ⟨fun h => ?_, fun h => ?_⟩
      · rw [if_neg h] at hR
        refine EndZ.ret [] (.tup [N.av, .int .i64 k, .int .i64 HS.2]) (by simp) ?_
        simp -implicitDefEqProofs [← hR]
      · rw [if_pos h] at hR
        refine Again.os (k + 1, HS.1) [0, 1] ⟨hlt, hw2, hl2, by simpa using hR⟩ (by show l.length - (k + 1) < l.length - k; omega) ?_
        simp -implicitDefEqProofs [e1]
    · have hkk : k = l.length := by omega
      subst hkk
      rw [List.drop_length, allGo] at hR
      simp -implicitDefEqProofs
      refine EndZ.ret [] (.tup [N.av, .int .i64 l.length, .int .i64 0]) (by simp) ?_
      simp -implicitDefEqProofs [← hR]
end Go.Am


set_option linter.unusedVariables false
set_option linter.unusedSimpArgs false
set_option pp.deepTerms false
set_option pp.deepTerms.threshold 40
namespace Go.Am
open Go.Proofs

structure Past where
  base : Net
  hz : Int
  evs : List Ev
@[simp] def Past.av (p : Past) : AV := .agg [.im (.sl 4 (p.base.seats.map Seat.iv)), .im (.sl 4 (p.base.routers.map Router.iv)), .int .i64 p.hz, .im (.sl 12 (p.evs.map Ev.iv))]
theorem many_bd : ∀ (l : List Router) (n : Int), (∀ r ∈ l, routerOk r = true) → 0 ≤ n → n + 288 * l.length ≤ 1000000000 → n ≤ many l n ∧ many l n ≤ n + 288 * l.length
  | [], n, _, _, _ => by simp [many]
  | r :: l, n, h, h0, hb => by
    obtain ⟨h1, h2⟩ := routerOk_len (h r List.mem_cons_self)
    simp only [List.length_cons] at hb
    have e1 : IntKind.i64.wrap ((r.routes.length : Int) + r.links.length) = (r.routes.length : Int) + r.links.length := wrap64 (by omega) (by omega)
    have e2 : IntKind.i64.wrap (n + ((r.routes.length : Int) + r.links.length)) = n + ((r.routes.length : Int) + r.links.length) := wrap64 (by omega) (by omega)
    rw [many, e1, e2]
    have := many_bd l (n + ((r.routes.length : Int) + r.links.length)) (fun x hx => h x (List.mem_cons_of_mem _ hx)) (by omega) (by omega)
    simp only [List.length_cons]
    omega
def sizeN (n : Net) : Int := if netOk n then many n.routers 0 else 0
theorem sizeN_bd (n : Net) : 0 ≤ sizeN n ∧ sizeN n ≤ 1000000 := by
  unfold sizeN
  split
  · rename_i h
    have h1 := netOk_len h
    have := many_bd n.routers 0 (netOk_routers h).2 (Int.le_refl _) (by omega)
    omega
  · omega
theorem sizeNr_spec (n : Net) (hw : n.wf) : FSpec Tryz.prog 96 [n.av] [] (.tup [.int .i64 (sizeN n), .int .i64 (if netOk n then 0 else 2)]) [] := by
  have h1 := checkNr_spec n hw
  have h2 := manyr_spec n.routers
  refine FSpec.of_z (q := []) Tryz.func96 (by kernel_rfl) rfl Tryz.ntmps96 Tryz.results96 hP (by kernel_rfl) (by simp) (by first | rfl | simp) ?_
  simp -implicitDefEqProofs
  first | refine CallK.same (h1) rfl rfl ?_ | refine CallQ.same (h1) rfl rfl ?_ | refine CallQG.same _ (h1) rfl ?_ | refine CallG.same _ (h1) rfl ?_ | refine CallK.pv (h1) rfl rfl ?_
  simp -implicitDefEqProofs
  unfold sizeN
  cases hn : netOk n with
  | false =>
    simp -implicitDefEqProofs
    refine EndZ.ret [] (.tup [.int .i64 0, .int .i64 2]) (by simp) ?_
    simp
  | true =>
    simp -implicitDefEqProofs
    first | refine CallK.same (h2) rfl rfl ?_ | refine CallQ.same (h2) rfl rfl ?_ | refine CallQG.same _ (h2) rfl ?_ | refine CallG.same _ (h2) rfl ?_ | refine CallK.pv (h2) rfl rfl ?_
    simp -implicitDefEqProofs
    refine EndZ.ret [] (.tup [.int .i64 (many n.routers 0), .int .i64 0]) (by simp) ?_
    simp
def addsE (l : List Ev) : Nat := l.countP fun e => e.kind == 3 || e.kind == 5
theorem addsE_take (l : List Ev) (k : Nat) (h : k < l.length) : addsE (l.take (k + 1)) = addsE (l.take k) + if l[k].kind = 3 ∨ l[k].kind = 5 then 1 else 0 := by
  unfold addsE
  rw [List.take_add_one, List.getElem?_eq_getElem h, List.countP_append]
  simp only [Option.toList_some, List.countP_cons, List.countP_nil, Bool.or_eq_true, beq_iff_eq]
  omega
theorem addsE_len (l : List Ev) : addsE l ≤ l.length := List.countP_le_length
def weightF (p : Past) : Int := sizeN p.base + addsE p.evs
set_option maxRecDepth 8000 in
theorem weightr_spec (p : Past) (hw : p.base.wf) (hl : p.evs.length ≤ 100000000) : FSpec Tryz.prog 54 [p.av] [] (.int .i64 (weightF p)) [] := by
  have h1 := sizeNr_spec p.base hw
  have hb := sizeN_bd p.base
  refine FSpec.of_flat (q := []) Tryz.func54 (by kernel_rfl) rfl Tryz.ntmps54 Tryz.results54 hP (by kernel_rfl) (by simp) (by first | rfl | simp) ?_
  simp -implicitDefEqProofs
  first | refine CallK.same (h1) rfl rfl ?_ | refine CallQ.same (h1) rfl rfl ?_ | refine CallQG.same _ (h1) rfl ?_ | refine CallG.same _ (h1) rfl ?_ | refine CallK.pv (h1) rfl rfl ?_
  simp -implicitDefEqProofs
  unfold weightF
  generalize sizeN p.base = z at *
  generalize p.evs = l at *
  refine LoopK.plain (fun k : Nat => [(3, .int .i64 (z + addsE (l.take k))), (14, .im (.sl 12 (l.map Ev.iv))), (15, .int .i64 l.length), (16, .int .i64 k)])
    (fun k => k ≤ l.length) (fun k => l.length - k) 0 (Nat.zero_le _) (by simp [addsE]) ?_
  intro k hk
  by_cases hlt : k < l.length
  · have e1 : IntKind.i64.wrap (k + 1) = (k + 1 : Nat) := wrap64 (by omega) (by omega)
    have ht := addsE_take l k hlt
    have hn := addsE_len (l.take k)
    rw [List.length_take] at hn
    have e2 : IntKind.i64.wrap (z + (addsE (l.take k) : Int) + 1) = z + (addsE (l.take k) : Int) + 1 := wrap64 (by omega) (by omega)
    simp -implicitDefEqProofs [hlt]
    refine ⟨fun h => ?_, fun h1 h2 => ?_⟩
    · rw [if_pos h] at ht
      refine Again.plain (k + 1) hlt (by omega) ?_
      simp -implicitDefEqProofs [e1, e2, ht]
      omega
    · rw [if_neg (by simp [h1, h2])] at ht
      refine Again.plain (k + 1) hlt (by omega) ?_
      simp -implicitDefEqProofs [e1, ht]
  · have hkk : k = l.length := by omega
    subst hkk
    simp -implicitDefEqProofs
end Go.Am


set_option linter.unusedVariables false
set_option linter.unusedSimpArgs false
set_option pp.deepTerms false
set_option pp.deepTerms.threshold 40
namespace Go.Am
open Go.Proofs

end Go.Am


set_option linter.unusedVariables false
set_option linter.unusedSimpArgs false
set_option pp.deepTerms false
set_option pp.deepTerms.threshold 40
namespace Go.Am
open Go.Proofs

theorem CallX.ov {P : Go.Program} {f : FuncId} {fn : Go.Func} {tS tR e0 : TypeId} {size : Nat} (F : OvF P f fn tS tR e0 size) {d : Option Nat} {k : St → Prop} {fr : List (Nat × AV)} {o : List (Nat × AObj)} {nx s : Nat} {g : Option Bool} {m1 n k0 lo len : Nat} {e1 : TypeId} {k1 : Nat} {ys : List (List IV)} {e : TypeId} {l c : Nat} {xs : List (List IV)}
    (h1 : look o m1 = some (.row e1 k1 ys)) (h2 : look o n = some (.rowP e k0 l c xs)) (h3 : m1 ≠ n) (h4 : ys ≠ []) (h5 : xs ≠ []) (h6 : 0 < k0) (h7 : lo < c) (hk : k (St.put ⟨fr, o, nx, s, g⟩ d (.bool false))) : CallX P f [.row m1, .sub n k0 lo len] d k ⟨fr, o, nx, s, g⟩ :=
  ⟨[], .inr (.inr (.inr (.inl ⟨m1, n, k0, lo, len, e1, k1, ys, e, l, c, xs, rfl, h1, h2, h3, h4, h5, h6, h7, ⟨_, _, _, _, _, F⟩, hk⟩)))⟩
theorem FSpec.nilArg {P : Go.Program} {f : FuncId} {k : Nat} {r : AV} {outs : List AObj} (h : ∀ A c, FSpec P f [.im (.sc (.slice A 0 c))] [] r outs) : FSpec P f [.im (.sl k [])] [] r outs := by
  refine ⟨(h none 0).1, fun m w Y vs hO hY hsz hvs => ?_⟩
  obtain ⟨l⟩ := vs
  match l, hsz with
  | [v], _ =>
    have hv := hvs 0 _ v rfl rfl
    cases hv with | im hv =>
    generalize hx : ([] : List (List IV)) = xs at hv
    cases hv with | @sl _ _ A cap u ad hcap hmax hA hk hc h1c hr =>
    subst hx
    refine (h A cap).2 m w Y _ hO hY rfl fun j y u' hy hu => ?_
    match j with
    | 0 => cases hy; cases hu; exact .im .sc
    | j + 1 => simp at hy
theorem del_eq {α : Type} (xs : List α) (i r : Nat) (h : i + 1 + r = xs.length) (Z D : List α) : ((xs.take i ++ (xs.drop (i + 1) ++ D)).take (i + r) ++ Z).take (i + r) = xs.take i ++ xs.drop (i + 1) ∧ i + r ≤ ((xs.take i ++ (xs.drop (i + 1) ++ D)).take (i + r) ++ Z).length := by
  have h1 : (xs.take i).length = i := by simp; omega
  have h2 : (xs.drop (i + 1)).length = r := by simp; omega
  have e1 : (xs.take i ++ (xs.drop (i + 1) ++ D)).take (i + r) = xs.take i ++ xs.drop (i + 1) := by
    rw [← List.append_assoc, List.take_left' (by simp; omega)]
  rw [e1]
  refine ⟨List.take_left' (by simp; omega), by simp; omega⟩
theorem ins_eq {α : Type} (xs D : List α) (x : α) (i r : Nat) (hi : i + r = xs.length) (hD : D.length ≤ r) : (xs.take i ++ x :: D).take (i + 1) ++ ((xs.drop i).take r ++ (xs.take i ++ x :: D).drop (i + 1 + r)) = xs.take i ++ x :: xs.drop i := by
  have h1 : (xs.take i).length = i := by simp; omega
  have e1 : (xs.take i ++ x :: D).take (i + 1) = xs.take i ++ [x] := by
    rw [List.take_append, h1, List.take_of_length_le (by omega)]
    simp
  have e2 : (xs.take i ++ x :: D).drop (i + 1 + r) = [] := List.drop_eq_nil_of_le (by simp; omega)
  have e3 : (xs.drop i).take r = xs.drop i := List.take_of_length_le (by simp; omega)
  rw [e1, e2, e3]
  simp
theorem ovSeat : OvF Tryz.prog 260 Tryz.f260 22 4 65 4 :=
  ⟨Tryz.func260, by kernel_rfl, by kernel_rfl, by kernel_rfl, by kernel_rfl, Tryz.underlying22, by kernel_rfl⟩
set_option maxRecDepth 8000 in
set_option maxHeartbeats 1000000 in
theorem insSeat_spec (xs : List (List IV)) (x : List IV) (i : Nat) (hi : i ≤ xs.length) (hl : xs.length ≤ 4096) :
    FSpec Tryz.prog 247 [.row 0, .int .i64 i, .row 1] [.row 65 4 xs, .row 65 4 [x]] (.row 2) [.gone, .row 65 4 [x], .row 65 4 (xs.take i ++ x :: xs.drop i)] := by
  have e1 : IntKind.i64.wrap ((xs.length : Int) + 1) = (xs.length + 1 : Nat) := wrap64 (by omega) (by omega)
  have e2 : IntKind.i64.wrap ((i : Int) + 1) = (i + 1 : Nat) := wrap64 (by omega) (by omega)
  have e3 : IntKind.i64.wrap (((xs.length + 1 : Nat) : Int) - (i : Int)) = (xs.length + 1 - i : Nat) := by rw [wrap64 (by omega) (by omega)]; omega
  by_cases h : i = xs.length
  · subst h
    refine FSpec.of_o (q := [(11, .n 8), (15, .n 8)]) Tryz.func247 (by kernel_rfl) rfl Tryz.ntmps247 Tryz.results247 hP (by kernel_rfl) (by simp) (by first | rfl | simp) ?_
    simp -implicitDefEqProofs
    refine ⟨⟨by omega, by unfold maxLen; omega⟩, ?_⟩
    refine EndO.ret [] [0, 1, 2] (.row 2) (by simp) (by simp)
  · have hlt : i < xs.length := by omega
    refine FSpec.openP (i := 0) (enters_of Tryz.func247 (by kernel_rfl) rfl) rfl fun c hc hcm => ?_
    simp only [List.set_cons_zero]
    have hne : xs ≠ [] := by intro e; subst e; simp at hlt
    refine FSpec.of_o (q := [(11, .n 8), (15, .n 8)]) Tryz.func247 (by kernel_rfl) rfl Tryz.ntmps247 Tryz.results247 hP (by kernel_rfl) (by simp) (by first | rfl | simp) ?_
    have e1' : IntKind.i64.wrap ((xs.length : Int) + 1) = (xs.length : Int) + 1 := wrap64 (by omega) (by omega)
    have e2' : IntKind.i64.wrap ((i : Int) + 1) = (i : Int) + 1 := wrap64 (by omega) (by omega)
    have hii : ¬ (i : Int) = xs.length := by omega
    obtain ⟨q, hq⟩ : ∃ q, q = xs.length + 1 - i := ⟨_, rfl⟩
    have e3' : IntKind.i64.wrap ((xs.length : Int) + 1 - i) = (q : Int) := by rw [wrap64 (by omega) (by omega)]; omega
    have hmx : max (q : Int) 0 = q := by omega
    have hq2 : ((i : Int) + (q : Int)).toNat = i + q := by omega
    have hmin : min 1 q = 1 := by omega
    have hq0 : 0 < q := by omega
    have hmaxl : i + q ≤ maxLen := by unfold maxLen; omega
    have hby : (i + q) * 32 ≤ 140737488355328 := by omega
    rcases Nat.lt_or_ge c (xs.length + 1) with hcc | hcc
    · have hcc1 : (c : Int) < (xs.length : Int) + 1 := by omega
      have hcc2 : c < i + q := by omega
      simp -implicitDefEqProofs [h, hi, e1', e2', e3', hmx, hq2, hmin, hq0, hmaxl, hby, hc, hcc1, hcc2, hii]
      repeat refine ⟨by omega, ?_⟩
      have hA : ((i : Int) + (((i + q - (i + 1) : Nat) : Int) + 1)).toNat - (i + 1) = xs.length - i := by omega
      have hC : i + 1 + (xs.length - i) ≤ i + (i + q - (i + 1) + 1) := by omega
      simp -implicitDefEqProofs only [hA, hC, if_true]
      simp -implicitDefEqProofs
      refine EndO.ret [] [0, 1, 2] (.row 2) (by simp) ?_
      have hI := fun Z : List IV => ins_eq xs ((xs.take i ++ List.replicate q Z).drop (i + 1)) x i (xs.length - i) (by omega) (by simp; omega)
      simp -implicitDefEqProofs [List.take_take]
      exact hI _
    · have hcc1 : ¬ (c : Int) < (xs.length : Int) + 1 := by omega
      simp -implicitDefEqProofs [h, hi, e1', e2', e3', hmx, hq2, hmin, hq0, hmaxl, hby, hc, hcc, hcc1, hii]
      refine .inr ⟨⟨by omega, by omega⟩, by omega, ?_⟩
      refine CallX.ov ovSeat rfl rfl (by omega) (by simp) hne (by omega) (by omega) ?_
      have hF : ¬ i + (xs.length + 1 - i) ≤ xs.length := by omega
      have hG : min (xs.length + 1 - i) (xs.length - i) = xs.length - i := by omega
      have hG2 : i + (xs.length - i) ≤ xs.length := by omega
      have hT : (xs.drop i).take (xs.length - i) = xs.drop i := List.take_of_length_le (by simp)
      have hlt' : i + 1 ≤ xs.length := hlt
      simp -implicitDefEqProofs [h, hi, e1', e2', e3', hmx, hq2, hmin, hq0, hmaxl, hby, hc, hcc, hcc1, hii, hF, hG, hG2, hT, hlt']
      repeat refine ⟨by omega, ?_⟩
      have hm1 : min 1 (xs.length + 1 - i) = 1 := by omega
      have hd : xs.drop (i + 1 + (xs.length - i)) = [] := List.drop_eq_nil_of_le (by omega)
      have k1 : (xs.take (i + 1) ++ xs.drop i).take i = xs.take i := by
        rw [List.take_append_of_le_length (by simp; omega), List.take_take, Nat.min_eq_left (by omega)]
      have k2 : (xs.take (i + 1) ++ xs.drop i).drop (i + 1) = xs.drop i := List.drop_left' (by simp; omega)
      have k3 : (xs.take i ++ x :: xs.drop i).length = xs.length + 1 := by simp; omega
      refine EndO.ret [] [0, 1, 2] (.row 2) (by simp) ?_
      simp -implicitDefEqProofs only [hm1, hd, List.append_nil, List.take_succ_cons, List.take_zero, k1, k2, List.cons_append, List.nil_append]
      have k4 : xs.length + 1 ≤ (xs.take i ++ x :: xs.drop i).length := by omega
      have k5 : (xs.take i ++ x :: xs.drop i).take (xs.length + 1) = xs.take i ++ x :: xs.drop i := List.take_of_length_le (by omega)
      generalize xs.take i ++ x :: xs.drop i = R at *
      simp -implicitDefEqProofs [k4, k5]
theorem ovRouter : OvF Tryz.prog 209 Tryz.f209 23 4 85 4 :=
  ⟨Tryz.func209, by kernel_rfl, by kernel_rfl, by kernel_rfl, by kernel_rfl, Tryz.underlying23, by kernel_rfl⟩
set_option maxRecDepth 8000 in
set_option maxHeartbeats 1000000 in
theorem insRouter_spec (xs : List (List IV)) (x : List IV) (i : Nat) (hi : i ≤ xs.length) (hl : xs.length ≤ 4096) :
    FSpec Tryz.prog 164 [.row 0, .int .i64 i, .row 1] [.row 85 4 xs, .row 85 4 [x]] (.row 2) [.gone, .row 85 4 [x], .row 85 4 (xs.take i ++ x :: xs.drop i)] := by
  have e1 : IntKind.i64.wrap ((xs.length : Int) + 1) = (xs.length + 1 : Nat) := wrap64 (by omega) (by omega)
  have e2 : IntKind.i64.wrap ((i : Int) + 1) = (i + 1 : Nat) := wrap64 (by omega) (by omega)
  have e3 : IntKind.i64.wrap (((xs.length + 1 : Nat) : Int) - (i : Int)) = (xs.length + 1 - i : Nat) := by rw [wrap64 (by omega) (by omega)]; omega
  by_cases h : i = xs.length
  · subst h
    refine FSpec.of_o (q := [(11, .n 8), (15, .n 8)]) Tryz.func164 (by kernel_rfl) rfl Tryz.ntmps164 Tryz.results164 hP (by kernel_rfl) (by simp) (by first | rfl | simp) ?_
    simp -implicitDefEqProofs
    refine ⟨⟨by omega, by unfold maxLen; omega⟩, ?_⟩
    refine EndO.ret [] [0, 1, 2] (.row 2) (by simp) (by simp)
  · have hlt : i < xs.length := by omega
    refine FSpec.openP (i := 0) (enters_of Tryz.func164 (by kernel_rfl) rfl) rfl fun c hc hcm => ?_
    simp only [List.set_cons_zero]
    have hne : xs ≠ [] := by intro e; subst e; simp at hlt
    refine FSpec.of_o (q := [(11, .n 8), (15, .n 8)]) Tryz.func164 (by kernel_rfl) rfl Tryz.ntmps164 Tryz.results164 hP (by kernel_rfl) (by simp) (by first | rfl | simp) ?_
    have e1' : IntKind.i64.wrap ((xs.length : Int) + 1) = (xs.length : Int) + 1 := wrap64 (by omega) (by omega)
    have e2' : IntKind.i64.wrap ((i : Int) + 1) = (i : Int) + 1 := wrap64 (by omega) (by omega)
    have hii : ¬ (i : Int) = xs.length := by omega
    obtain ⟨q, hq⟩ : ∃ q, q = xs.length + 1 - i := ⟨_, rfl⟩
    have e3' : IntKind.i64.wrap ((xs.length : Int) + 1 - i) = (q : Int) := by rw [wrap64 (by omega) (by omega)]; omega
    have hmx : max (q : Int) 0 = q := by omega
    have hq2 : ((i : Int) + (q : Int)).toNat = i + q := by omega
    have hmin : min 1 q = 1 := by omega
    have hq0 : 0 < q := by omega
    have hmaxl : i + q ≤ maxLen := by unfold maxLen; omega
    have hby : (i + q) * 64 ≤ 140737488355328 := by omega
    rcases Nat.lt_or_ge c (xs.length + 1) with hcc | hcc
    · have hcc1 : (c : Int) < (xs.length : Int) + 1 := by omega
      have hcc2 : c < i + q := by omega
      simp -implicitDefEqProofs [h, hi, e1', e2', e3', hmx, hq2, hmin, hq0, hmaxl, hby, hc, hcc1, hcc2, hii]
      repeat refine ⟨by omega, ?_⟩
      have hA : ((i : Int) + (((i + q - (i + 1) : Nat) : Int) + 1)).toNat - (i + 1) = xs.length - i := by omega
      have hC : i + 1 + (xs.length - i) ≤ i + (i + q - (i + 1) + 1) := by omega
      simp -implicitDefEqProofs only [hA, hC, if_true]
      simp -implicitDefEqProofs
      refine EndO.ret [] [0, 1, 2] (.row 2) (by simp) ?_
      have hI := fun Z : List IV => ins_eq xs ((xs.take i ++ List.replicate q Z).drop (i + 1)) x i (xs.length - i) (by omega) (by simp; omega)
      simp -implicitDefEqProofs [List.take_take]
      exact hI _
    · have hcc1 : ¬ (c : Int) < (xs.length : Int) + 1 := by omega
      simp -implicitDefEqProofs [h, hi, e1', e2', e3', hmx, hq2, hmin, hq0, hmaxl, hby, hc, hcc, hcc1, hii]
      refine .inr ⟨⟨by omega, by omega⟩, by omega, ?_⟩
      refine CallX.ov ovRouter rfl rfl (by omega) (by simp) hne (by omega) (by omega) ?_
      have hF : ¬ i + (xs.length + 1 - i) ≤ xs.length := by omega
      have hG : min (xs.length + 1 - i) (xs.length - i) = xs.length - i := by omega
      have hG2 : i + (xs.length - i) ≤ xs.length := by omega
      have hT : (xs.drop i).take (xs.length - i) = xs.drop i := List.take_of_length_le (by simp)
      have hlt' : i + 1 ≤ xs.length := hlt
      simp -implicitDefEqProofs [h, hi, e1', e2', e3', hmx, hq2, hmin, hq0, hmaxl, hby, hc, hcc, hcc1, hii, hF, hG, hG2, hT, hlt']
      repeat refine ⟨by omega, ?_⟩
      have hm1 : min 1 (xs.length + 1 - i) = 1 := by omega
      have hd : xs.drop (i + 1 + (xs.length - i)) = [] := List.drop_eq_nil_of_le (by omega)
      have k1 : (xs.take (i + 1) ++ xs.drop i).take i = xs.take i := by
        rw [List.take_append_of_le_length (by simp; omega), List.take_take, Nat.min_eq_left (by omega)]
      have k2 : (xs.take (i + 1) ++ xs.drop i).drop (i + 1) = xs.drop i := List.drop_left' (by simp; omega)
      have k3 : (xs.take i ++ x :: xs.drop i).length = xs.length + 1 := by simp; omega
      refine EndO.ret [] [0, 1, 2] (.row 2) (by simp) ?_
      simp -implicitDefEqProofs only [hm1, hd, List.append_nil, List.take_succ_cons, List.take_zero, k1, k2, List.cons_append, List.nil_append]
      have k4 : xs.length + 1 ≤ (xs.take i ++ x :: xs.drop i).length := by omega
      have k5 : (xs.take i ++ x :: xs.drop i).take (xs.length + 1) = xs.take i ++ x :: xs.drop i := List.take_of_length_le (by omega)
      generalize xs.take i ++ x :: xs.drop i = R at *
      simp -implicitDefEqProofs [k4, k5]
theorem ovRoute : OvF Tryz.prog 263 Tryz.f263 82 4 117 6 :=
  ⟨Tryz.func263, by kernel_rfl, by kernel_rfl, by kernel_rfl, by kernel_rfl, Tryz.underlying82, by kernel_rfl⟩
set_option maxRecDepth 8000 in
set_option maxHeartbeats 1000000 in
theorem insRoute_spec (xs : List (List IV)) (x : List IV) (i : Nat) (hi : i ≤ xs.length) (hl : xs.length ≤ 4096) :
    FSpec Tryz.prog 254 [.row 0, .int .i64 i, .row 1] [.row 117 6 xs, .row 117 6 [x]] (.row 2) [.gone, .row 117 6 [x], .row 117 6 (xs.take i ++ x :: xs.drop i)] := by
  have e1 : IntKind.i64.wrap ((xs.length : Int) + 1) = (xs.length + 1 : Nat) := wrap64 (by omega) (by omega)
  have e2 : IntKind.i64.wrap ((i : Int) + 1) = (i + 1 : Nat) := wrap64 (by omega) (by omega)
  have e3 : IntKind.i64.wrap (((xs.length + 1 : Nat) : Int) - (i : Int)) = (xs.length + 1 - i : Nat) := by rw [wrap64 (by omega) (by omega)]; omega
  by_cases h : i = xs.length
  · subst h
    refine FSpec.of_o (q := [(11, .n 8), (15, .n 8)]) Tryz.func254 (by kernel_rfl) rfl Tryz.ntmps254 Tryz.results254 hP (by kernel_rfl) (by simp) (by first | rfl | simp) ?_
    simp -implicitDefEqProofs
    refine ⟨⟨by omega, by unfold maxLen; omega⟩, ?_⟩
    refine EndO.ret [] [0, 1, 2] (.row 2) (by simp) (by simp)
  · have hlt : i < xs.length := by omega
    refine FSpec.openP (i := 0) (enters_of Tryz.func254 (by kernel_rfl) rfl) rfl fun c hc hcm => ?_
    simp only [List.set_cons_zero]
    have hne : xs ≠ [] := by intro e; subst e; simp at hlt
    refine FSpec.of_o (q := [(11, .n 8), (15, .n 8)]) Tryz.func254 (by kernel_rfl) rfl Tryz.ntmps254 Tryz.results254 hP (by kernel_rfl) (by simp) (by first | rfl | simp) ?_
    have e1' : IntKind.i64.wrap ((xs.length : Int) + 1) = (xs.length : Int) + 1 := wrap64 (by omega) (by omega)
    have e2' : IntKind.i64.wrap ((i : Int) + 1) = (i : Int) + 1 := wrap64 (by omega) (by omega)
    have hii : ¬ (i : Int) = xs.length := by omega
    obtain ⟨q, hq⟩ : ∃ q, q = xs.length + 1 - i := ⟨_, rfl⟩
    have e3' : IntKind.i64.wrap ((xs.length : Int) + 1 - i) = (q : Int) := by rw [wrap64 (by omega) (by omega)]; omega
    have hmx : max (q : Int) 0 = q := by omega
    have hq2 : ((i : Int) + (q : Int)).toNat = i + q := by omega
    have hmin : min 1 q = 1 := by omega
    have hq0 : 0 < q := by omega
    have hmaxl : i + q ≤ maxLen := by unfold maxLen; omega
    have hby : (i + q) * 64 ≤ 140737488355328 := by omega
    rcases Nat.lt_or_ge c (xs.length + 1) with hcc | hcc
    · have hcc1 : (c : Int) < (xs.length : Int) + 1 := by omega
      have hcc2 : c < i + q := by omega
      simp -implicitDefEqProofs [h, hi, e1', e2', e3', hmx, hq2, hmin, hq0, hmaxl, hby, hc, hcc1, hcc2, hii]
      repeat refine ⟨by omega, ?_⟩
      have hA : ((i : Int) + (((i + q - (i + 1) : Nat) : Int) + 1)).toNat - (i + 1) = xs.length - i := by omega
      have hC : i + 1 + (xs.length - i) ≤ i + (i + q - (i + 1) + 1) := by omega
      simp -implicitDefEqProofs only [hA, hC, if_true]
      simp -implicitDefEqProofs
      refine EndO.ret [] [0, 1, 2] (.row 2) (by simp) ?_
      have hI := fun Z : List IV => ins_eq xs ((xs.take i ++ List.replicate q Z).drop (i + 1)) x i (xs.length - i) (by omega) (by simp; omega)
      simp -implicitDefEqProofs [List.take_take]
      exact hI _
    · have hcc1 : ¬ (c : Int) < (xs.length : Int) + 1 := by omega
      simp -implicitDefEqProofs [h, hi, e1', e2', e3', hmx, hq2, hmin, hq0, hmaxl, hby, hc, hcc, hcc1, hii]
      refine .inr ⟨⟨by omega, by omega⟩, by omega, ?_⟩
      refine CallX.ov ovRoute rfl rfl (by omega) (by simp) hne (by omega) (by omega) ?_
      have hF : ¬ i + (xs.length + 1 - i) ≤ xs.length := by omega
      have hG : min (xs.length + 1 - i) (xs.length - i) = xs.length - i := by omega
      have hG2 : i + (xs.length - i) ≤ xs.length := by omega
      have hT : (xs.drop i).take (xs.length - i) = xs.drop i := List.take_of_length_le (by simp)
      have hlt' : i + 1 ≤ xs.length := hlt
      simp -implicitDefEqProofs [h, hi, e1', e2', e3', hmx, hq2, hmin, hq0, hmaxl, hby, hc, hcc, hcc1, hii, hF, hG, hG2, hT, hlt']
      repeat refine ⟨by omega, ?_⟩
      have hm1 : min 1 (xs.length + 1 - i) = 1 := by omega
      have hd : xs.drop (i + 1 + (xs.length - i)) = [] := List.drop_eq_nil_of_le (by omega)
      have k1 : (xs.take (i + 1) ++ xs.drop i).take i = xs.take i := by
        rw [List.take_append_of_le_length (by simp; omega), List.take_take, Nat.min_eq_left (by omega)]
      have k2 : (xs.take (i + 1) ++ xs.drop i).drop (i + 1) = xs.drop i := List.drop_left' (by simp; omega)
      have k3 : (xs.take i ++ x :: xs.drop i).length = xs.length + 1 := by simp; omega
      refine EndO.ret [] [0, 1, 2] (.row 2) (by simp) ?_
      simp -implicitDefEqProofs only [hm1, hd, List.append_nil, List.take_succ_cons, List.take_zero, k1, k2, List.cons_append, List.nil_append]
      have k4 : xs.length + 1 ≤ (xs.take i ++ x :: xs.drop i).length := by omega
      have k5 : (xs.take i ++ x :: xs.drop i).take (xs.length + 1) = xs.take i ++ x :: xs.drop i := List.take_of_length_le (by omega)
      generalize xs.take i ++ x :: xs.drop i = R at *
      simp -implicitDefEqProofs [k4, k5]
theorem ovLink : OvF Tryz.prog 265 Tryz.f265 83 4 200 2 :=
  ⟨Tryz.func265, by kernel_rfl, by kernel_rfl, by kernel_rfl, by kernel_rfl, Tryz.underlying83, by kernel_rfl⟩
set_option maxRecDepth 8000 in
set_option maxHeartbeats 1000000 in
theorem insLink_spec (xs : List (List IV)) (x : List IV) (i : Nat) (hi : i ≤ xs.length) (hl : xs.length ≤ 4096) :
    FSpec Tryz.prog 257 [.row 0, .int .i64 i, .row 1] [.row 200 2 xs, .row 200 2 [x]] (.row 2) [.gone, .row 200 2 [x], .row 200 2 (xs.take i ++ x :: xs.drop i)] := by
  have e1 : IntKind.i64.wrap ((xs.length : Int) + 1) = (xs.length + 1 : Nat) := wrap64 (by omega) (by omega)
  have e2 : IntKind.i64.wrap ((i : Int) + 1) = (i + 1 : Nat) := wrap64 (by omega) (by omega)
  have e3 : IntKind.i64.wrap (((xs.length + 1 : Nat) : Int) - (i : Int)) = (xs.length + 1 - i : Nat) := by rw [wrap64 (by omega) (by omega)]; omega
  by_cases h : i = xs.length
  · subst h
    refine FSpec.of_o (q := [(11, .n 8), (15, .n 8)]) Tryz.func257 (by kernel_rfl) rfl Tryz.ntmps257 Tryz.results257 hP (by kernel_rfl) (by simp) (by first | rfl | simp) ?_
    simp -implicitDefEqProofs
    refine ⟨⟨by omega, by unfold maxLen; omega⟩, ?_⟩
    refine EndO.ret [] [0, 1, 2] (.row 2) (by simp) (by simp)
  · have hlt : i < xs.length := by omega
    refine FSpec.openP (i := 0) (enters_of Tryz.func257 (by kernel_rfl) rfl) rfl fun c hc hcm => ?_
    simp only [List.set_cons_zero]
    have hne : xs ≠ [] := by intro e; subst e; simp at hlt
    refine FSpec.of_o (q := [(11, .n 8), (15, .n 8)]) Tryz.func257 (by kernel_rfl) rfl Tryz.ntmps257 Tryz.results257 hP (by kernel_rfl) (by simp) (by first | rfl | simp) ?_
    have e1' : IntKind.i64.wrap ((xs.length : Int) + 1) = (xs.length : Int) + 1 := wrap64 (by omega) (by omega)
    have e2' : IntKind.i64.wrap ((i : Int) + 1) = (i : Int) + 1 := wrap64 (by omega) (by omega)
    have hii : ¬ (i : Int) = xs.length := by omega
    obtain ⟨q, hq⟩ : ∃ q, q = xs.length + 1 - i := ⟨_, rfl⟩
    have e3' : IntKind.i64.wrap ((xs.length : Int) + 1 - i) = (q : Int) := by rw [wrap64 (by omega) (by omega)]; omega
    have hmx : max (q : Int) 0 = q := by omega
    have hq2 : ((i : Int) + (q : Int)).toNat = i + q := by omega
    have hmin : min 1 q = 1 := by omega
    have hq0 : 0 < q := by omega
    have hmaxl : i + q ≤ maxLen := by unfold maxLen; omega
    have hby : (i + q) * 16 ≤ 140737488355328 := by omega
    rcases Nat.lt_or_ge c (xs.length + 1) with hcc | hcc
    · have hcc1 : (c : Int) < (xs.length : Int) + 1 := by omega
      have hcc2 : c < i + q := by omega
      simp -implicitDefEqProofs [h, hi, e1', e2', e3', hmx, hq2, hmin, hq0, hmaxl, hby, hc, hcc1, hcc2, hii]
      repeat refine ⟨by omega, ?_⟩
      have hA : ((i : Int) + (((i + q - (i + 1) : Nat) : Int) + 1)).toNat - (i + 1) = xs.length - i := by omega
      have hC : i + 1 + (xs.length - i) ≤ i + (i + q - (i + 1) + 1) := by omega
      simp -implicitDefEqProofs only [hA, hC, if_true]
      simp -implicitDefEqProofs
      refine EndO.ret [] [0, 1, 2] (.row 2) (by simp) ?_
      have hI := fun Z : List IV => ins_eq xs ((xs.take i ++ List.replicate q Z).drop (i + 1)) x i (xs.length - i) (by omega) (by simp; omega)
      simp -implicitDefEqProofs [List.take_take]
      exact hI _
    · have hcc1 : ¬ (c : Int) < (xs.length : Int) + 1 := by omega
      simp -implicitDefEqProofs [h, hi, e1', e2', e3', hmx, hq2, hmin, hq0, hmaxl, hby, hc, hcc, hcc1, hii]
      refine .inr ⟨⟨by omega, by omega⟩, by omega, ?_⟩
      refine CallX.ov ovLink rfl rfl (by omega) (by simp) hne (by omega) (by omega) ?_
      have hF : ¬ i + (xs.length + 1 - i) ≤ xs.length := by omega
      have hG : min (xs.length + 1 - i) (xs.length - i) = xs.length - i := by omega
      have hG2 : i + (xs.length - i) ≤ xs.length := by omega
      have hT : (xs.drop i).take (xs.length - i) = xs.drop i := List.take_of_length_le (by simp)
      have hlt' : i + 1 ≤ xs.length := hlt
      simp -implicitDefEqProofs [h, hi, e1', e2', e3', hmx, hq2, hmin, hq0, hmaxl, hby, hc, hcc, hcc1, hii, hF, hG, hG2, hT, hlt']
      repeat refine ⟨by omega, ?_⟩
      have hm1 : min 1 (xs.length + 1 - i) = 1 := by omega
      have hd : xs.drop (i + 1 + (xs.length - i)) = [] := List.drop_eq_nil_of_le (by omega)
      have k1 : (xs.take (i + 1) ++ xs.drop i).take i = xs.take i := by
        rw [List.take_append_of_le_length (by simp; omega), List.take_take, Nat.min_eq_left (by omega)]
      have k2 : (xs.take (i + 1) ++ xs.drop i).drop (i + 1) = xs.drop i := List.drop_left' (by simp; omega)
      have k3 : (xs.take i ++ x :: xs.drop i).length = xs.length + 1 := by simp; omega
      refine EndO.ret [] [0, 1, 2] (.row 2) (by simp) ?_
      simp -implicitDefEqProofs only [hm1, hd, List.append_nil, List.take_succ_cons, List.take_zero, k1, k2, List.cons_append, List.nil_append]
      have k4 : xs.length + 1 ≤ (xs.take i ++ x :: xs.drop i).length := by omega
      have k5 : (xs.take i ++ x :: xs.drop i).take (xs.length + 1) = xs.take i ++ x :: xs.drop i := List.take_of_length_le (by omega)
      generalize xs.take i ++ x :: xs.drop i = R at *
      simp -implicitDefEqProofs [k4, k5]
set_option maxRecDepth 8000 in
set_option maxHeartbeats 1000000 in
theorem delRoute_spec (xs : List (List IV)) (i : Nat) (hi : i < xs.length) (hl : xs.length ≤ 4096) :
    FSpec Tryz.prog 256 [.row 0, .int .i64 i, .int .i64 (i + 1 : Nat)] [.row 117 6 xs] (.row 1) [.gone, .row 117 6 (xs.take i ++ xs.drop (i + 1))] := by
  refine FSpec.openP (i := 0) (enters_of Tryz.func256 (by kernel_rfl) rfl) rfl fun c hc hcm => ?_
  simp only [List.set_cons_zero]
  have hne : xs ≠ [] := by intro e; subst e; simp at hi
  have h0 : (i : Int) ≤ (i : Int) + 1 := by omega
  have h1 : (i : Int) + 1 ≤ xs.length := by omega
  have h2 : ¬ (i : Int) = (i : Int) + 1 := by omega
  have h3 : i + 1 ≤ xs.length := hi
  have hc0 : 0 < c := by omega
  have h4 : i ≤ xs.length := by omega
  have h5 : i ≤ c := by omega
  have h6 : i + (xs.length - (i + 1)) ≤ c := by omega
  have h7 : i + 1 + (xs.length - (i + 1)) ≤ xs.length := by omega
  refine FSpec.of_o (q := [(5, .n 6)]) Tryz.func256 (by kernel_rfl) rfl Tryz.ntmps256 Tryz.results256 hP (by kernel_rfl) (by simp) (by first | rfl | simp) ?_
  simp -implicitDefEqProofs [hc, h0, h1, h2, h3, hc0, h4, h5, h6, h7]
  repeat refine ⟨by omega, ?_⟩
  have hL : ((i : Int) + ((xs.length - (i + 1) : Nat) : Int)).toNat = i + (xs.length - (i + 1)) := by omega
  have hT : (xs.drop (i + 1)).take (xs.length - (i + 1)) = xs.drop (i + 1) := List.take_of_length_le (by simp)
  have hD := fun Z D : List (List IV) => del_eq xs i (xs.length - (i + 1)) (by omega) Z D
  refine EndO.ret [] [0, 1] (.row 1) (by simp) ?_
  simp -implicitDefEqProofs only [hL, hT]
  generalize List.replicate (xs.length - (i + (xs.length - (i + 1)))) _ ++ _ = Z
  obtain ⟨k1, k2⟩ := hD Z (xs.drop (i + (xs.length - (i + 1))))
  generalize List.take (i + (xs.length - (i + 1))) _ ++ Z = R at *
  simp -implicitDefEqProofs [k1, k2]
set_option maxRecDepth 8000 in
set_option maxHeartbeats 1000000 in
theorem delLink_spec (xs : List (List IV)) (i : Nat) (hi : i < xs.length) (hl : xs.length ≤ 4096) :
    FSpec Tryz.prog 258 [.row 0, .int .i64 i, .int .i64 (i + 1 : Nat)] [.row 200 2 xs] (.row 1) [.gone, .row 200 2 (xs.take i ++ xs.drop (i + 1))] := by
  refine FSpec.openP (i := 0) (enters_of Tryz.func258 (by kernel_rfl) rfl) rfl fun c hc hcm => ?_
  simp only [List.set_cons_zero]
  have hne : xs ≠ [] := by intro e; subst e; simp at hi
  have h0 : (i : Int) ≤ (i : Int) + 1 := by omega
  have h1 : (i : Int) + 1 ≤ xs.length := by omega
  have h2 : ¬ (i : Int) = (i : Int) + 1 := by omega
  have h3 : i + 1 ≤ xs.length := hi
  have hc0 : 0 < c := by omega
  have h4 : i ≤ xs.length := by omega
  have h5 : i ≤ c := by omega
  have h6 : i + (xs.length - (i + 1)) ≤ c := by omega
  have h7 : i + 1 + (xs.length - (i + 1)) ≤ xs.length := by omega
  refine FSpec.of_o (q := [(5, .n 6)]) Tryz.func258 (by kernel_rfl) rfl Tryz.ntmps258 Tryz.results258 hP (by kernel_rfl) (by simp) (by first | rfl | simp) ?_
  simp -implicitDefEqProofs [hc, h0, h1, h2, h3, hc0, h4, h5, h6, h7]
  repeat refine ⟨by omega, ?_⟩
  have hL : ((i : Int) + ((xs.length - (i + 1) : Nat) : Int)).toNat = i + (xs.length - (i + 1)) := by omega
  have hT : (xs.drop (i + 1)).take (xs.length - (i + 1)) = xs.drop (i + 1) := List.take_of_length_le (by simp)
  have hD := fun Z D : List (List IV) => del_eq xs i (xs.length - (i + 1)) (by omega) Z D
  refine EndO.ret [] [0, 1] (.row 1) (by simp) ?_
  simp -implicitDefEqProofs only [hL, hT]
  generalize List.replicate (xs.length - (i + (xs.length - (i + 1)))) _ ++ _ = Z
  obtain ⟨k1, k2⟩ := hD Z (xs.drop (i + (xs.length - (i + 1))))
  generalize List.take (i + (xs.length - (i + 1))) _ ++ Z = R at *
  simp -implicitDefEqProofs [k1, k2]
theorem cloNSeat_spec (A : Option Addr) (c : Nat) : FSpec Tryz.prog 159 [.im (.sc (.slice A 0 c))] [] (.row 0) [.row 65 4 []] := by
  refine FSpec.of_o (q := []) Tryz.func159 (by kernel_rfl) rfl Tryz.ntmps159 Tryz.results159 hP (by kernel_rfl) (by simp) (by first | rfl | simp) ?_
  cases A with
  | none =>
    cases c with
    | zero =>
      simp -implicitDefEqProofs
      refine ⟨[.sl 2 65 4], [], [0], .row 0, by simp [St.nils], by simp [St.nils]⟩
    | succ c =>
      simp -implicitDefEqProofs
      refine ⟨[.sl 2 65 4], [], [0], .row 0, by simp [St.nils], by simp [St.nils]⟩
  | some ad =>
    simp -implicitDefEqProofs
    refine EndO.ret [] [1] (.row 1) (by simp) (by simp)
theorem cloSeat_spec (xs : List (List IV)) (hl : xs.length ≤ 4096) : FSpec Tryz.prog 159 [.im (.sl 4 xs)] [] (.row 0) [.row 65 4 xs] := by
  cases xs with
  | nil => exact FSpec.nilArg cloNSeat_spec
  | cons x xs =>
    refine FSpec.of_o (q := []) Tryz.func159 (by kernel_rfl) rfl Tryz.ntmps159 Tryz.results159 hP (by kernel_rfl) (by simp) (by first | rfl | simp) ?_
    simp -implicitDefEqProofs
    simp at hl
    refine ⟨⟨by omega, by unfold maxLen; omega⟩, ?_⟩
    refine EndO.ret [] [1] (.row 1) (by simp) (by simp)
theorem cloNRouter_spec (A : Option Addr) (c : Nat) : FSpec Tryz.prog 160 [.im (.sc (.slice A 0 c))] [] (.row 0) [.row 85 4 []] := by
  refine FSpec.of_o (q := []) Tryz.func160 (by kernel_rfl) rfl Tryz.ntmps160 Tryz.results160 hP (by kernel_rfl) (by simp) (by first | rfl | simp) ?_
  cases A with
  | none =>
    cases c with
    | zero =>
      simp -implicitDefEqProofs
      refine ⟨[.sl 2 85 4], [], [0], .row 0, by simp [St.nils], by simp [St.nils]⟩
    | succ c =>
      simp -implicitDefEqProofs
      refine ⟨[.sl 2 85 4], [], [0], .row 0, by simp [St.nils], by simp [St.nils]⟩
  | some ad =>
    simp -implicitDefEqProofs
    refine EndO.ret [] [1] (.row 1) (by simp) (by simp)
theorem cloRouter_spec (xs : List (List IV)) (hl : xs.length ≤ 4096) : FSpec Tryz.prog 160 [.im (.sl 4 xs)] [] (.row 0) [.row 85 4 xs] := by
  cases xs with
  | nil => exact FSpec.nilArg cloNRouter_spec
  | cons x xs =>
    refine FSpec.of_o (q := []) Tryz.func160 (by kernel_rfl) rfl Tryz.ntmps160 Tryz.results160 hP (by kernel_rfl) (by simp) (by first | rfl | simp) ?_
    simp -implicitDefEqProofs
    simp at hl
    refine ⟨⟨by omega, by unfold maxLen; omega⟩, ?_⟩
    refine EndO.ret [] [1] (.row 1) (by simp) (by simp)
theorem cloNRoute_spec (A : Option Addr) (c : Nat) : FSpec Tryz.prog 203 [.im (.sc (.slice A 0 c))] [] (.row 0) [.row 117 6 []] := by
  refine FSpec.of_o (q := []) Tryz.func203 (by kernel_rfl) rfl Tryz.ntmps203 Tryz.results203 hP (by kernel_rfl) (by simp) (by first | rfl | simp) ?_
  cases A with
  | none =>
    cases c with
    | zero =>
      simp -implicitDefEqProofs
      refine ⟨[.sl 2 117 6], [], [0], .row 0, by simp [St.nils], by simp [St.nils]⟩
    | succ c =>
      simp -implicitDefEqProofs
      refine ⟨[.sl 2 117 6], [], [0], .row 0, by simp [St.nils], by simp [St.nils]⟩
  | some ad =>
    simp -implicitDefEqProofs
    refine EndO.ret [] [1] (.row 1) (by simp) (by simp)
theorem cloRoute_spec (xs : List (List IV)) (hl : xs.length ≤ 4096) : FSpec Tryz.prog 203 [.im (.sl 6 xs)] [] (.row 0) [.row 117 6 xs] := by
  cases xs with
  | nil => exact FSpec.nilArg cloNRoute_spec
  | cons x xs =>
    refine FSpec.of_o (q := []) Tryz.func203 (by kernel_rfl) rfl Tryz.ntmps203 Tryz.results203 hP (by kernel_rfl) (by simp) (by first | rfl | simp) ?_
    simp -implicitDefEqProofs
    simp at hl
    refine ⟨⟨by omega, by unfold maxLen; omega⟩, ?_⟩
    refine EndO.ret [] [1] (.row 1) (by simp) (by simp)
theorem cloNLink_spec (A : Option Addr) (c : Nat) : FSpec Tryz.prog 204 [.im (.sc (.slice A 0 c))] [] (.row 0) [.row 200 2 []] := by
  refine FSpec.of_o (q := []) Tryz.func204 (by kernel_rfl) rfl Tryz.ntmps204 Tryz.results204 hP (by kernel_rfl) (by simp) (by first | rfl | simp) ?_
  cases A with
  | none =>
    cases c with
    | zero =>
      simp -implicitDefEqProofs
      refine ⟨[.sl 2 200 2], [], [0], .row 0, by simp [St.nils], by simp [St.nils]⟩
    | succ c =>
      simp -implicitDefEqProofs
      refine ⟨[.sl 2 200 2], [], [0], .row 0, by simp [St.nils], by simp [St.nils]⟩
  | some ad =>
    simp -implicitDefEqProofs
    refine EndO.ret [] [1] (.row 1) (by simp) (by simp)
theorem cloLink_spec (xs : List (List IV)) (hl : xs.length ≤ 4096) : FSpec Tryz.prog 204 [.im (.sl 2 xs)] [] (.row 0) [.row 200 2 xs] := by
  cases xs with
  | nil => exact FSpec.nilArg cloNLink_spec
  | cons x xs =>
    refine FSpec.of_o (q := []) Tryz.func204 (by kernel_rfl) rfl Tryz.ntmps204 Tryz.results204 hP (by kernel_rfl) (by simp) (by first | rfl | simp) ?_
    simp -implicitDefEqProofs
    simp at hl
    refine ⟨⟨by omega, by unfold maxLen; omega⟩, ?_⟩
    refine EndO.ret [] [1] (.row 1) (by simp) (by simp)
theorem cloNEvent_spec (A : Option Addr) (c : Nat) : FSpec Tryz.prog 128 [.im (.sc (.slice A 0 c))] [] (.row 0) [.row 39 12 []] := by
  refine FSpec.of_o (q := []) Tryz.func128 (by kernel_rfl) rfl Tryz.ntmps128 Tryz.results128 hP (by kernel_rfl) (by simp) (by first | rfl | simp) ?_
  cases A with
  | none =>
    cases c with
    | zero =>
      simp -implicitDefEqProofs
      refine ⟨[.sl 2 39 12], [], [0], .row 0, by simp [St.nils], by simp [St.nils]⟩
    | succ c =>
      simp -implicitDefEqProofs
      refine ⟨[.sl 2 39 12], [], [0], .row 0, by simp [St.nils], by simp [St.nils]⟩
  | some ad =>
    simp -implicitDefEqProofs
    refine EndO.ret [] [1] (.row 1) (by simp) (by simp)
theorem cloEvent_spec (xs : List (List IV)) (hl : xs.length ≤ 4096) : FSpec Tryz.prog 128 [.im (.sl 12 xs)] [] (.row 0) [.row 39 12 xs] := by
  cases xs with
  | nil => exact FSpec.nilArg cloNEvent_spec
  | cons x xs =>
    refine FSpec.of_o (q := []) Tryz.func128 (by kernel_rfl) rfl Tryz.ntmps128 Tryz.results128 hP (by kernel_rfl) (by simp) (by first | rfl | simp) ?_
    simp -implicitDefEqProofs
    simp at hl
    refine ⟨⟨by omega, by unfold maxLen; omega⟩, ?_⟩
    refine EndO.ret [] [1] (.row 1) (by simp) (by simp)
end Go.Am


set_option linter.unusedVariables false
set_option linter.unusedSimpArgs false
set_option pp.deepTerms false
set_option pp.deepTerms.threshold 40
namespace Go.Am
open Go.Proofs

def strictC {α : Type} (c : α → Int) (l : List α) : Prop := l.Pairwise fun x y => 0 ≤ c x → 0 < c y
theorem strict_up {α : Type} {c : α → Int} {l : List α} (h : strictC c l) (i j : Nat) (x y : α) (hij : i ≤ j) (hx : l[i]? = some x) (hy : l[j]? = some y) (hc : c y < 0) : c x < 0 := by
  rcases Nat.eq_or_lt_of_le hij with e | hlt
  · subst e; rw [hx] at hy; cases hy; exact hc
  · obtain ⟨hi, e1⟩ := List.getElem?_eq_some_iff.1 hx
    obtain ⟨hj, e2⟩ := List.getElem?_eq_some_iff.1 hy
    have := List.pairwise_iff_getElem.1 h i j hi hj hlt
    rw [e1, e2] at this
    omega
theorem bs_lt {α : Type} {c : α → Int} : ∀ {l : List α}, strictC c l → l.take (bsI c l) = l.filter fun x => decide (c x < 0)
  | [], _ => rfl
  | x :: l, h => by
    have h1 := List.pairwise_cons.1 h
    rw [bsI, List.filter_cons]
    by_cases hx : c x < 0
    · rw [if_pos hx, if_pos (by simpa using hx), List.take_succ_cons, bs_lt h1.2]
    · rw [if_neg hx, if_neg (by simpa using hx), List.take_zero]
      symm
      rw [List.filter_eq_nil_iff]
      intro y hy
      have := h1.1 y hy (by omega)
      simp; omega
theorem bs_gt {α : Type} {c : α → Int} : ∀ {l : List α}, strictC c l → (if bsF c l then l.drop (bsI c l + 1) else l.drop (bsI c l)) = l.filter fun x => decide (0 < c x)
  | [], _ => by simp
  | x :: l, h => by
    have h1 := List.pairwise_cons.1 h
    have ih := bs_gt h1.2
    rw [List.filter_cons]
    unfold bsF at *
    rw [bsI]
    by_cases hx : c x < 0
    · have h0 : ¬ 0 < c x := by omega
      simp only [if_pos hx, h0, decide_false, List.getElem?_cons_succ, List.drop_succ_cons]
      exact ih
    · have hf : l.filter (fun x => decide (0 < c x)) = l := by
        rw [List.filter_eq_self]
        intro y hy
        have := h1.1 y hy (by omega)
        simpa using this
      rw [hf]
      simp only [if_neg hx, List.getElem?_cons_zero, Option.map_some, Option.getD_some, List.drop_zero, Nat.zero_add, List.drop_succ_cons, decide_eq_true_eq]
      by_cases h2 : c x = 0
      · have h3 : ¬ 0 < c x := by omega
        rw [if_pos h2, if_neg h3]
      · have h3 : 0 < c x := by omega
        rw [if_neg h2, if_pos h3]
theorem bsF_ltn {α : Type} {c : α → Int} {l : List α} (h : bsF c l = true) : bsI c l < l.length := by
  unfold bsF at h
  cases hg : l[bsI c l]? with
  | none => rw [hg] at h; cases h
  | some x => exact (List.getElem?_eq_some_iff.1 hg).1
theorem bs_set {α : Type} {c : α → Int} {l : List α} (hs : strictC c l) (s : α) (h : bsF c l = true) : l.set (bsI c l) s = l.filter (fun x => decide (c x < 0)) ++ [s] ++ l.filter fun x => decide (0 < c x) := by
  have h1 := bs_lt hs
  have h2 := bs_gt hs
  rw [if_pos h] at h2
  rw [List.set_eq_take_append_cons_drop, if_pos (bsF_ltn h), h1, h2]
  simp
theorem bs_ins {α : Type} {c : α → Int} {l : List α} (hs : strictC c l) (s : α) (h : bsF c l = false) : l.take (bsI c l) ++ s :: l.drop (bsI c l) = l.filter (fun x => decide (c x < 0)) ++ [s] ++ l.filter fun x => decide (0 < c x) := by
  have h1 := bs_lt hs
  have h2 := bs_gt hs
  rw [if_neg (by simp [h])] at h2
  rw [h1, h2]
  simp
theorem bs_del {α : Type} {c : α → Int} {l : List α} (hs : strictC c l) (h : bsF c l = true) : l.take (bsI c l) ++ l.drop (bsI c l + 1) = l.filter (fun x => decide (c x < 0)) ++ l.filter fun x => decide (0 < c x) := by
  have h1 := bs_lt hs
  have h2 := bs_gt hs
  rw [if_pos h] at h2
  rw [h1, h2]
theorem bs_none {α : Type} {c : α → Int} {l : List α} (hs : strictC c l) (h : bsF c l = false) : l = l.filter (fun x => decide (c x < 0)) ++ l.filter fun x => decide (0 < c x) := by
  have h1 := bs_lt hs
  have h2 := bs_gt hs
  rw [if_neg (by simp [h])] at h2
  rw [← h1, ← h2, List.take_append_drop]
theorem bs_mem {α : Type} {c : α → Int} : ∀ {l : List α}, strictC c l → (bsF c l = true ↔ ∃ x ∈ l, c x = 0)
  | [], _ => by simp [bsF]
  | x :: l, h => by
    have h1 := List.pairwise_cons.1 h
    have ih := bs_mem h1.2
    unfold bsF at *
    rw [bsI]
    by_cases hx : c x < 0
    · simp only [if_pos hx, List.getElem?_cons_succ, List.mem_cons]
      rw [ih]
      constructor
      · rintro ⟨y, hy, h0⟩; exact ⟨y, .inr hy, h0⟩
      · rintro ⟨y, rfl | hy, h0⟩
        · omega
        · exact ⟨y, hy, h0⟩
    · simp only [if_neg hx, List.getElem?_cons_zero, Option.map_some, Option.getD_some, decide_eq_true_eq, List.mem_cons]
      constructor
      · intro h0; exact ⟨x, .inl rfl, h0⟩
      · rintro ⟨y, rfl | hy, h0⟩
        · exact h0
        · have := h1.1 y hy (by omega)
          omega

theorem CallQG.off {P : Program} {f : FuncId} {args : List AV} {d : Option Nat} {k : St → Prop} {st : St} (v : Value) (hk : k (st.put d (.cond false (.im (.sc v))))) : CallQG P false f args d k st := ⟨[], v, fun h => (by cases h), rfl, hk⟩
def cmpS (n : Int) (x : Seat) : Int := cmpI x.router n
theorem cmpS_spec (x : Seat) (n : Int) : FSpec Tryz.prog 246 [x.av, .int .i64 n] [] (.int .i64 (cmpS n x)) [] := by
  refine FSpec.of_flat (q := []) Tryz.func246 (by kernel_rfl) rfl Tryz.ntmps246 Tryz.results246 hP (by kernel_rfl) (by simp) (by first | rfl | simp) ?_
  simp
  first | refine CallK.same (cmpI_spec x.router n) rfl rfl ?_ | refine CallQ.same (cmpI_spec x.router n) rfl rfl ?_ | refine CallQG.same _ (cmpI_spec x.router n) rfl ?_ | refine CallG.same _ (cmpI_spec x.router n) rfl ?_ | refine CallK.pv (cmpI_spec x.router n) rfl rfl ?_
  simp [cmpS]
def cmpQ (p : Pfx) (x : Route) : Int := cmpP x.pfx p
theorem cmpQ_spec (x : Route) (p : Pfx) : FSpec Tryz.prog 253 [x.av, p.av] [] (.int .i64 (cmpQ p x)) [] := by
  refine FSpec.of_flat (q := []) Tryz.func253 (by kernel_rfl) rfl Tryz.ntmps253 Tryz.results253 hP (by kernel_rfl) (by simp) (by first | rfl | simp) ?_
  simp
  first | refine CallK.same (cmpP_spec x.pfx p) rfl rfl ?_ | refine CallQ.same (cmpP_spec x.pfx p) rfl rfl ?_ | refine CallQG.same _ (cmpP_spec x.pfx p) rfl ?_ | refine CallG.same _ (cmpP_spec x.pfx p) rfl ?_ | refine CallK.pv (cmpP_spec x.pfx p) rfl rfl ?_
  simp [cmpQ]
theorem bsS_spec (l : List Seat) (n : Int) (hst : strictC (cmpS n) l) :
    FSpec Tryz.prog 245 [.im (.sl 4 (l.map Seat.iv)), .int .i64 n, .fn 246 []] [] (.tup [.int .i64 (bsI (cmpS n) l), .bool (bsF (cmpS n) l)]) [] := by
  have hs := fun (i j : Nat) (x y : Seat) => @strict_up Seat (cmpS n) l hst i j x y
  refine FSpec.bd (enters_of Tryz.func245 (by kernel_rfl) rfl) fun hbd => ?_
  have hl : l.length ≤ 9223372036854775807 := by simp [maxLen] at hbd; omega
  refine FSpec.of_flat (q := []) Tryz.func245 (by kernel_rfl) rfl Tryz.ntmps245 Tryz.results245 hP (by kernel_rfl) (by simp) (by first | rfl | simp) ?_
  simp
  refine LoopK.plain (fun g : Nat × Nat => [(0, .im (.sl 4 (l.map Seat.iv))), (1, .int .i64 n), (2, .fn 246 []), (8, .int .i64 l.length), (9, .int .i64 g.1), (10, .int .i64 g.2)])
    (fun g => g.1 ≤ g.2 ∧ g.2 ≤ l.length ∧ (∀ i x, i < g.1 → l[i]? = some x → cmpS n x < 0) ∧ (∀ i x, g.2 ≤ i → l[i]? = some x → 0 ≤ cmpS n x)) (fun g => g.2 - g.1) (0, l.length) ?_ ?_ ?_
  · exact ⟨Nat.zero_le _, Nat.le_refl _, fun i x hi => by omega, fun i x hi hx => by rw [List.getElem?_eq_none hi] at hx; cases hx⟩
  · simp
  rintro ⟨lo, hi⟩ ⟨h1, h2, h3, h4⟩
  simp only at h1 h2 h3 h4
  by_cases hlt : lo < hi
  · have hm := half_eq lo hi (by omega) (by omega)
    have hml : (lo + hi) / 2 < l.length := by omega
    obtain ⟨m, hmm⟩ : ∃ m, m = (lo + hi) / 2 := ⟨_, rfl⟩
    rw [← hmm] at hm hml
    have hg := List.getElem?_eq_getElem hml
    have hw1 : IntKind.i64.wrap (m + 1) = (m + 1 : Nat) := wrap64 (by omega) (by omega)
    simp [hlt, hm, hml, hg]
    generalize l[m] = x at *
    first | refine CallK.same (cmpS_spec x n) rfl rfl ?_ | refine CallQ.same (cmpS_spec x n) rfl rfl ?_ | refine CallQG.same _ (cmpS_spec x n) rfl ?_ | refine CallG.same _ (cmpS_spec x n) rfl ?_ | refine CallK.pv (cmpS_spec x n) rfl rfl ?_
    simp [hw1]
    refine ⟨fun hc => ?_, fun hc => ?_⟩
    · refine Again.plain (m + 1, hi) ⟨by omega, h2, fun i y hi' hy => ?_, h4⟩ (by simp only; omega) (by simp)
      exact hs i m y x (by omega) hy hg hc
    · refine Again.plain (lo, m) ⟨by omega, by omega, h3, fun i y hi' hy => ?_⟩ (by simp only; omega) (by simp)
      apply Classical.byContradiction
      intro hc'
      have := hs m i x y hi' hg hy (by omega)
      omega
  · have : lo = hi := by omega
    subst this
    have hb := bsI_eq (cmpS n) l lo h2 h3 (fun i x h5 h6 => by have := h4 i x h5 h6; omega)
    by_cases hll : lo < l.length
    · have hg := List.getElem?_eq_getElem hll
      simp [hll]
      generalize l[lo] = x at *
      first | refine CallK.same (cmpS_spec x n) rfl rfl ?_ | refine CallQ.same (cmpS_spec x n) rfl rfl ?_ | refine CallQG.same _ (cmpS_spec x n) rfl ?_ | refine CallG.same _ (cmpS_spec x n) rfl ?_ | refine CallK.pv (cmpS_spec x n) rfl rfl ?_
      simp [bsF, hb, hg]
      rfl
    · simp [hll, List.getElem?_eq_none (show l.length ≤ lo by omega)]
      refine CallG.off (.int .i64 0) ?_
      simp [bsF, hb, List.getElem?_eq_none (show l.length ≤ lo by omega)]
theorem bsR_spec (l : List Route) (n : Pfx) (hst : strictC (cmpQ n) l) :
    FSpec Tryz.prog 252 [.im (.sl 6 (l.map Route.iv)), n.av, .fn 253 []] [] (.tup [.int .i64 (bsI (cmpQ n) l), .bool (bsF (cmpQ n) l)]) [] := by
  have hs := fun (i j : Nat) (x y : Route) => @strict_up Route (cmpQ n) l hst i j x y
  refine FSpec.bd (enters_of Tryz.func252 (by kernel_rfl) rfl) fun hbd => ?_
  have hl : l.length ≤ 9223372036854775807 := by simp [maxLen] at hbd; omega
  refine FSpec.of_flat (q := [(5, .n 6), (8, .n 15)]) Tryz.func252 (by kernel_rfl) rfl Tryz.ntmps252 Tryz.results252 hP (by kernel_rfl) (by simp) (by first | rfl | simp) ?_
  simp
  refine LoopK.os (fun g : Nat × Nat => [(0, .im (.sl 6 (l.map Route.iv))), (2, .fn 253 []), (4, .ptr 0 0), (8, .int .i64 l.length), (9, .int .i64 g.1), (10, .int .i64 g.2)])
    (fun _ => [.box 34 [.bool n.six, .int .u64 n.addr.hi, .int .u64 n.addr.lo, .int .i64 n.len]])
    (fun g => g.1 ≤ g.2 ∧ g.2 ≤ l.length ∧ (∀ i x, i < g.1 → l[i]? = some x → cmpQ n x < 0) ∧ (∀ i x, g.2 ≤ i → l[i]? = some x → 0 ≤ cmpQ n x)) (fun g => g.2 - g.1) (0, l.length) [0] ?_ ?_ ?_
  · exact ⟨Nat.zero_le _, Nat.le_refl _, fun i x hi => by omega, fun i x hi hx => by rw [List.getElem?_eq_none hi] at hx; cases hx⟩
  · simp
  rintro ⟨lo, hi⟩ ⟨h1, h2, h3, h4⟩
  simp only at h1 h2 h3 h4
  by_cases hlt : lo < hi
  · have hm := half_eq lo hi (by omega) (by omega)
    have hml : (lo + hi) / 2 < l.length := by omega
    obtain ⟨m, hmm⟩ : ∃ m, m = (lo + hi) / 2 := ⟨_, rfl⟩
    rw [← hmm] at hm hml
    have hg := List.getElem?_eq_getElem hml
    have hw1 : IntKind.i64.wrap (m + 1) = (m + 1 : Nat) := wrap64 (by omega) (by omega)
    simp [hlt, hm, hml, hg]
    generalize l[m] = x at *
    first | refine CallK.same (cmpQ_spec x n) rfl rfl ?_ | refine CallQ.same (cmpQ_spec x n) rfl rfl ?_ | refine CallQG.same _ (cmpQ_spec x n) rfl ?_ | refine CallG.same _ (cmpQ_spec x n) rfl ?_ | refine CallK.pv (cmpQ_spec x n) rfl rfl ?_
    simp [hw1]
    refine ⟨fun hc => ?_, fun hc => ?_⟩
    · refine Again.os (m + 1, hi) [0] ⟨by omega, h2, fun i y hi' hy => ?_, h4⟩ (by simp only; omega) (by simp)
      exact hs i m y x (by omega) hy hg hc
    · refine Again.os (lo, m) [0] ⟨by omega, by omega, h3, fun i y hi' hy => ?_⟩ (by simp only; omega) (by simp)
      apply Classical.byContradiction
      intro hc'
      have := hs m i x y hi' hg hy (by omega)
      omega
  · have : lo = hi := by omega
    subst this
    have hb := bsI_eq (cmpQ n) l lo h2 h3 (fun i x h5 h6 => by have := h4 i x h5 h6; omega)
    by_cases hll : lo < l.length
    · have hg := List.getElem?_eq_getElem hll
      simp [hll]
      generalize l[lo] = x at *
      first | refine CallK.same (cmpQ_spec x n) rfl rfl ?_ | refine CallQ.same (cmpQ_spec x n) rfl rfl ?_ | refine CallQG.same _ (cmpQ_spec x n) rfl ?_ | refine CallG.same _ (cmpQ_spec x n) rfl ?_ | refine CallK.pv (cmpQ_spec x n) rfl rfl ?_
      simp [bsF, hb, hg]
      rfl
    · simp [hll, List.getElem?_eq_none (show l.length ≤ lo by omega)]
      refine CallQG.off (.int .i64 0) ?_
      simp [bsF, hb, List.getElem?_eq_none (show l.length ≤ lo by omega)]
end Go.Am


set_option linter.unusedVariables false
set_option linter.unusedSimpArgs false
set_option pp.deepTerms false
set_option pp.deepTerms.threshold 40
namespace Go.Am
open Go.Proofs

theorem mod_set {α : Type} (f : α → List IV) (l : List α) (s : α) (i : Nat) (g : List IV → List IV) (hg : ∀ x, g (f x) = f s) : (l.map f).modify i g = (l.set i s).map f := by
  apply List.ext_getElem?
  intro j
  rw [List.getElem?_modify, List.getElem?_map, List.getElem?_map, List.getElem?_set]
  by_cases h : i = j
  · subst h
    cases hx : l[i]? with
    | none => simp [List.getElem?_eq_none_iff.1 hx]
    | some x => simp [(List.getElem?_eq_some_iff.1 hx).1, hg]
  · simp [h]
theorem cmpS_lt (n : Int) (x : Seat) : cmpS n x < 0 ↔ x.router < n := by
  unfold cmpS cmpI
  repeat' split
  all_goals omega
theorem cmpS_gt (n : Int) (x : Seat) : 0 < cmpS n x ↔ n < x.router := by
  unfold cmpS cmpI
  repeat' split
  all_goals omega
theorem strictS {l : List Seat} (h : checkS l = 0) (n : Int) : strictC (cmpS n) l := by
  unfold checkS at h
  split at h
  · cases h
  · refine (checkSL_sorted h).2.imp fun {x y} hxy h0 => ?_
    rw [cmpS_gt]
    have := cmpS_lt n x
    omega
theorem putSeat_cmp (l : List Seat) (e : Ev) : putSeat l (seatOf e) = l.filter (fun x => decide (cmpS e.router x < 0)) ++ [seatOf e] ++ l.filter (fun x => decide (0 < cmpS e.router x)) := by
  unfold putSeat
  simp only [cmpS_lt, cmpS_gt, seatOf]
  congr
theorem seatOf_iv (e : Ev) : (seatOf e).iv = [.sc (.int .i64 e.router), .sc (.int .u64 e.seq), .sc (.int .i64 e.time), .sc (.bool (e.kind != 2))] := rfl
set_option maxRecDepth 8000 in
set_option maxHeartbeats 1000000 in
theorem takeS_spec (l : List Seat) (e : Ev) (h : checkS l = 0) (hf : bsF (cmpS e.router) l = true) :
    FSpec Tryz.prog 211 [.row 0, e.av] [.row 65 4 (l.map Seat.iv)] (.row 0) [.row 65 4 ((putSeat l (seatOf e)).map Seat.iv)] := by
  have hb := bsS_spec l e.router (strictS h _)
  have hlt := bsF_ltn hf
  have hset := bs_set (strictS h e.router) (seatOf e) hf
  rw [← putSeat_cmp] at hset
  rw [hf] at hb
  generalize bsI (cmpS e.router) l = i at *
  refine FSpec.of_o (q := []) Tryz.func211 (by kernel_rfl) rfl Tryz.ntmps211 Tryz.results211 hP (by kernel_rfl) (by simp) (by first | rfl | simp) ?_
  simp -implicitDefEqProofs
  refine CallK.fz [0] hb rfl (by simp) rfl ?_
  simp -implicitDefEqProofs [hlt]
  refine EndO.ret [] [0] (.row 0) (by simp) ?_
  rw [← hset, ← mod_set Seat.iv l (seatOf e) i (fun x => [.sc (.int .i64 e.router), .sc (.int .u64 e.seq), .sc (.int .i64 e.time), .sc (.bool (e.kind != 2))] ++ x.drop 4) (fun x => by simp [seatOf])]
  simp -implicitDefEqProofs
set_option maxRecDepth 8000 in
set_option maxHeartbeats 1000000 in
theorem takeN_spec (l : List Seat) (e : Ev) (h : checkS l = 0) (hf : bsF (cmpS e.router) l = false) :
    FSpec Tryz.prog 211 [.row 0, e.av] [.row 65 4 (l.map Seat.iv)] (.row 1) [.gone, .row 65 4 ((putSeat l (seatOf e)).map Seat.iv)] := by
  have hb := bsS_spec l e.router (strictS h _)
  have hlt := bsI_le (cmpS e.router) l
  have hset := bs_ins (strictS h e.router) (seatOf e) hf
  have hlen := checkS_len h
  rw [← putSeat_cmp] at hset
  rw [hf] at hb
  generalize bsI (cmpS e.router) l = i at *
  have hi := insSeat_spec (l.map Seat.iv) (seatOf e).iv i (by simpa using hlt) (by simp; omega)
  have hset' : (putSeat l (seatOf e)).map Seat.iv = (l.map Seat.iv).take i ++ (seatOf e).iv :: (l.map Seat.iv).drop i := by
    rw [← hset, List.map_append, List.map_cons, List.map_take, List.map_drop]
  rw [← hset'] at hi
  rw [seatOf_iv] at hi
  refine FSpec.of_o (q := []) Tryz.func211 (by kernel_rfl) rfl Tryz.ntmps211 Tryz.results211 hP (by kernel_rfl) (by simp) (by first | rfl | simp) ?_
  simp -implicitDefEqProofs
  refine CallK.fz [0] hb rfl (by simp) rfl ?_
  simp -implicitDefEqProofs
  refine CallO.mk [] [0, 3] hi (by simp) rfl (by simp) (by simp) (by simp) ?_
  simp -implicitDefEqProofs
  refine EndO.ret [] [0, 4] (.row 4) (by simp) ?_
  simp -implicitDefEqProofs
set_option maxRecDepth 8000 in
set_option maxHeartbeats 1000000 in
theorem nextO_spec (l : List Seat) (e : Ev) (hz : Int) (hsq : 0 ≤ e.seq) :
    FSpec Tryz.prog 165 [.im (.sl 4 (l.map Seat.iv)), e.av, .int .i64 hz] [] (.tup [.im (.sl 4 ((nextS l e hz).1.map Seat.iv)), .int .i64 (nextS l e hz).2]) [] := by
  have ha := asked_spec l e hz hsq
  refine FSpec.of_z (q := []) Tryz.func165 (by kernel_rfl) rfl Tryz.ntmps165 Tryz.results165 hP (by kernel_rfl) (by simp) (by first | rfl | simp) ?_
  simp -implicitDefEqProofs
  first | refine CallK.same (ha) rfl rfl ?_ | refine CallQ.same (ha) rfl rfl ?_ | refine CallQG.same _ (ha) rfl ?_ | refine CallG.same _ (ha) rfl ?_ | refine CallK.pv (ha) rfl rfl ?_
  simp -implicitDefEqProofs
  by_cases A : ¬ checkS l = 0 ∨ evOk e = false
  · have hm : mayS l e hz = 2 := by unfold mayS; rw [if_pos A]
    simp -implicitDefEqProofs [A]
    refine EndZ.ret [] (.tup [.im (.sc (.slice none 0 0)), .int .i64 2]) (by simp) ?_
    simp -implicitDefEqProofs [nextS, hm]
  by_cases B : hz < -1 ∨ 1099511627776 < hz
  · have hm : mayS l e hz = 1 := by unfold mayS; rw [if_neg A, if_pos B]
    simp -implicitDefEqProofs [A, B]
    refine EndZ.ret [] (.tup [.im (.sc (.slice none 0 0)), .int .i64 1]) (by simp) ?_
    simp -implicitDefEqProofs [nextS, hm]
  have A1 : checkS l = 0 := by apply Classical.byContradiction; intro h; exact A (.inl h)
  have A2 : evOk e = true := by cases h : evOk e with | true => rfl | false => exact absurd (.inr h) A
  have hm : mayS l e hz = mayT l e hz := mayS_T A1 A2 (by omega) (by omega)
  have hc := cloSeat_spec (l.map Seat.iv) (by have := checkS_len A1; simp; omega)
  have hfit := fits_spec l e hz A1 A2
  have hx : nextS l e hz = if mayS l e hz = 2 ∨ mayS l e hz = 1 then ([], mayS l e hz) else if ¬ mayS l e hz = 0 then (l, mayS l e hz) else (putSeat l (seatOf e), 0) := rfl
  have h12 : ¬ (mayT l e hz = 2 ∨ mayT l e hz = 1) := by unfold mayT; repeat' split
                                                         all_goals omega
  rw [hm, if_neg h12] at hx
  generalize nextS l e hz = NX at *
  generalize mayT l e hz = M at *
  simp -implicitDefEqProofs [A, B]
  refine CallK.outs [] hc rfl (by simp) (by simp [AV.flat]) ?_
  simp -implicitDefEqProofs
  first | refine CallK.same (hfit) rfl rfl ?_ | refine CallQ.same (hfit) rfl rfl ?_ | refine CallQG.same _ (hfit) rfl ?_ | refine CallG.same _ (hfit) rfl ?_ | refine CallK.pv (hfit) rfl rfl ?_
  simp -implicitDefEqProofs
  refine ⟨fun h => ?_, fun h => ?_⟩
  · subst h
    simp at hx
    subst hx
    cases hf : bsF (cmpS e.router) l with
    | true =>
      refine CallO.mk [] [1] (takeS_spec l e A1 hf) (by simp) rfl (by simp) (by simp) (by simp) ?_
      simp -implicitDefEqProofs
      refine EndZ.ret [1] (.tup [.row 1, .int .i64 0]) (by simp) ?_
      simp -implicitDefEqProofs
    | false =>
      refine CallO.mk [] [1] (takeN_spec l e A1 hf) (by simp) rfl (by simp) (by simp) (by simp) ?_
      simp -implicitDefEqProofs
      refine EndZ.ret [2] (.tup [.row 2, .int .i64 0]) (by simp) ?_
      simp -implicitDefEqProofs
  · rw [if_pos h] at hx
    subst hx
    refine EndZ.ret [1] (.tup [.row 1, .int .i64 M]) (by simp) ?_
    simp -implicitDefEqProofs
end Go.Am


set_option linter.unusedVariables false
set_option linter.unusedSimpArgs false
set_option pp.deepTerms false
set_option pp.deepTerms.threshold 40
namespace Go.Am
open Go.Proofs

theorem cmpL_pos (n : Int) (x : Link) : 0 < cmpL n x ↔ n < x.iface := by
  unfold cmpL cmpI
  repeat' split
  all_goals omega
theorem strictL {l : List Link} (h : checkL l = 0) (n : Int) : strictC (cmpL n) l := by
  refine (checkL_sorted h).imp fun {x y} hxy h0 => ?_
  rw [cmpL_pos]
  have := cmpL_neg n x
  omega
theorem ltL_cmp (i : Int) (l : List Link) : ltL i l = l.filter fun x => decide (cmpL i x < 0) := by
  unfold ltL
  simp only [cmpL_neg]
theorem gtL_cmp (i : Int) (l : List Link) : gtL i l = l.filter fun x => decide (0 < cmpL i x) := by
  unfold gtL
  simp only [cmpL_pos]
theorem eqL_bs {l : List Link} (h : checkL l = 0) (i : Int) : eqL i l = [] ↔ bsF (cmpL i) l = false := by
  have hm := bs_mem (strictL h i)
  unfold eqL
  rw [List.filter_eq_nil_iff]
  constructor
  · intro h1
    cases hf : bsF (cmpL i) l with
    | false => rfl
    | true =>
      obtain ⟨x, hx, h0⟩ := hm.1 hf
      have := h1 x hx
      rw [cmpL_zero] at h0
      simp [h0] at this
  · intro h1 x hx
    have : ¬ ∃ x ∈ l, cmpL i x = 0 := fun h2 => by rw [hm.2 h2] at h1; cases h1
    simp only [decide_eq_true_eq]
    intro h2
    exact this ⟨x, hx, (cmpL_zero i x).2 h2⟩
theorem checkLL_02 : ∀ (l : List Link) (a : Int), checkLL l a = 0 ∨ checkLL l a = 2
  | [], _ => .inl rfl
  | s :: t, a => by
    rw [checkLL]
    split
    · exact .inr rfl
    · exact checkLL_02 t _
theorem checkL_32 {l : List Link} (h : checkL l = 0) : l.length ≤ 32 := by
  unfold checkL at h
  split at h
  · cases h
  · omega
set_option maxRecDepth 8000 in
set_option maxHeartbeats 2000000 in
theorem putLo_spec (l : List Link) (x : Link) :
    FSpec Tryz.prog 242 [.im (.sl 2 (l.map Link.iv)), x.av] [] (.tup [.im (.sl 2 ((putLk l x).1.map Link.iv)), .int .i64 (putLk l x).2]) [] := by
  have hc := checkL_spec l
  have ho := rightL_spec x
  refine FSpec.of_z (q := []) Tryz.func242 (by kernel_rfl) rfl Tryz.ntmps242 Tryz.results242 hP (by kernel_rfl) (by simp) (by first | rfl | simp) ?_
  simp -implicitDefEqProofs
  first | refine CallK.same (hc) rfl rfl ?_ | refine CallQ.same (hc) rfl rfl ?_ | refine CallQG.same _ (hc) rfl ?_ | refine CallG.same _ (hc) rfl ?_ | refine CallK.pv (hc) rfl rfl ?_
  simp -implicitDefEqProofs
  first | refine CallK.same (ho) rfl rfl ?_ | refine CallQ.same (ho) rfl rfl ?_ | refine CallQG.same _ (ho) rfl ?_ | refine CallG.same _ (ho) rfl ?_ | refine CallK.pv (ho) rfl rfl ?_
  simp -implicitDefEqProofs
  refine ⟨fun h => ?_, fun a1 a2 => ?_⟩
  · refine EndZ.ret [] (.tup [.im (.sc (.slice none 0 0)), .int .i64 2]) (by simp) ?_
    simp [putLk, h]
  have hlen := checkL_32 a1
  have hcl := cloLink_spec (l.map Link.iv) (by simp; omega)
  have hf := findL_spec l x.iface (fun i j x y => strict_up (strictL a1 _) i j x y)
  have hP : putLk l x = if bsF (cmpL x.iface) l = false ∧ l.length = 32 then (l, 8) else (l.filter (fun y => decide (cmpL x.iface y < 0)) ++ [x] ++ l.filter (fun y => decide (0 < cmpL x.iface y)), 0) := by
    unfold putLk
    rw [if_neg (by simp [a1, a2]), ltL_cmp, gtL_cmp]
    simp only [eqL_bs a1]
  have hs1 := bs_set (strictL a1 x.iface) x
  have hs2 := bs_ins (strictL a1 x.iface) x
  have hlt1 := fun hh => bsF_ltn (c := cmpL x.iface) (l := l) hh
  have hle := bsI_le (cmpL x.iface) l
  generalize putLk l x = RES at *
  generalize bsI (cmpL x.iface) l = i at *
  have hi := insLink_spec (l.map Link.iv) x.iv i (by simpa using hle) (by simp; omega)
  refine CallK.outs [] hcl rfl (by simp) (by simp [AV.flat]) ?_
  simp -implicitDefEqProofs
  refine CallK.fz [1] hf rfl (by simp) rfl ?_
  simp -implicitDefEqProofs
  cases hfb : bsF (cmpL x.iface) l with
  | true =>
    have hlt := hlt1 hfb
    have hset := hs1 hfb
    have hmod := mod_set Link.iv l x i (fun y => [.sc (.int .i64 x.iface), .sc (.int .i64 x.peer)] ++ y.drop 2) (fun y => by simp)
    obtain ⟨Y, hY⟩ : ∃ Y, l.set i x = Y := ⟨_, rfl⟩
    rw [if_neg (by simp [hfb]), ← hset, hY] at hP
    rw [hY] at hmod
    subst hP
    simp -implicitDefEqProofs [hlt]
    refine EndZ.ret [1] (.tup [.row 1, .int .i64 0]) (by simp) ?_
    rw [← hmod]
    simp -implicitDefEqProofs
  | false =>
    have hset := hs2 hfb
    simp -implicitDefEqProofs
    refine ⟨fun h32 => ?_, fun h32 => ?_⟩
    · rw [if_pos ⟨hfb, by omega⟩] at hP
      subst hP
      refine EndZ.ret [1] (.tup [.row 1, .int .i64 8]) (by simp) ?_
      simp -implicitDefEqProofs
    · rw [if_neg (fun hh => h32 (by omega)), ← hset] at hP
      subst hP
      refine CallO.mk [] [1, 2] hi (by simp) rfl (by simp) (by simp) (by simp) ?_
      simp -implicitDefEqProofs
      refine EndZ.ret [3] (.tup [.row 3, .int .i64 0]) (by simp) ?_
      simp -implicitDefEqProofs
set_option maxRecDepth 8000 in
set_option maxHeartbeats 2000000 in
theorem delLo_spec (l : List Link) (i : Int) :
    FSpec Tryz.prog 243 [.im (.sl 2 (l.map Link.iv)), .int .i64 i] [] (.tup [.im (.sl 2 ((delLk l i).1.map Link.iv)), .int .i64 (delLk l i).2]) [] := by
  have hc := checkL_spec l
  refine FSpec.of_z (q := []) Tryz.func243 (by kernel_rfl) rfl Tryz.ntmps243 Tryz.results243 hP (by kernel_rfl) (by simp) (by first | rfl | simp) ?_
  simp -implicitDefEqProofs
  first | refine CallK.same (hc) rfl rfl ?_ | refine CallQ.same (hc) rfl rfl ?_ | refine CallQG.same _ (hc) rfl ?_ | refine CallG.same _ (hc) rfl ?_ | refine CallK.pv (hc) rfl rfl ?_
  simp -implicitDefEqProofs
  have hcv : checkL l = 0 ∨ checkL l = 2 := by
    unfold checkL
    split
    · exact .inr rfl
    · exact checkLL_02 l _
  refine ⟨fun h => ?_, fun a1 => ?_⟩
  · have h2 : checkL l = 2 := by omega
    refine EndZ.ret [] (.tup [.im (.sc (.slice none 0 0)), .int .i64 2]) (by simp [h2]) ?_
    simp [delLk, h]
  have hlen := checkL_32 a1
  have hcl := cloLink_spec (l.map Link.iv) (by simp; omega)
  have hf := findL_spec l i (fun i j x y => strict_up (strictL a1 _) i j x y)
  have hP : delLk l i = (l.filter (fun y => decide (cmpL i y < 0)) ++ l.filter (fun y => decide (0 < cmpL i y)), if bsF (cmpL i) l = false then 3 else 0) := by
    unfold delLk
    rw [if_neg (by simp [a1]), ltL_cmp, gtL_cmp]
    simp only [eqL_bs a1]
  have hs1 := bs_del (strictL a1 i)
  have hs2 := bs_none (strictL a1 i)
  have hlt1 := fun hh => bsF_ltn (c := cmpL i) (l := l) hh
  generalize delLk l i = RES at *
  generalize bsI (cmpL i) l = j at *
  refine CallK.outs [] hcl rfl (by simp) (by simp [AV.flat]) ?_
  simp -implicitDefEqProofs
  refine CallK.fz [0] hf rfl (by simp) rfl ?_
  simp -implicitDefEqProofs
  cases hfb : bsF (cmpL i) l with
  | true =>
    have hlt := hlt1 hfb
    have hset := hs1 hfb
    have hd := delLink_spec (l.map Link.iv) j (by simpa using hlt) (by simp; omega)
    have e1 : IntKind.i64.wrap ((j : Int) + 1) = (j + 1 : Nat) := wrap64 (by omega) (by omega)
    rw [← hset, if_neg (by simp [hfb])] at hP
    subst hP
    simp -implicitDefEqProofs [e1]
    refine CallO.mk [] [0] hd (by simp) rfl (by simp) (by simp) (by simp) ?_
    simp -implicitDefEqProofs
    refine EndZ.ret [1] (.tup [.row 1, .int .i64 0]) (by simp) ?_
    simp -implicitDefEqProofs
  | false =>
    rw [← hs2 hfb, if_pos hfb] at hP
    subst hP
    simp -implicitDefEqProofs
    refine EndZ.ret [0] (.tup [.row 0, .int .i64 3]) (by simp) ?_
    simp -implicitDefEqProofs
end Go.Am


set_option linter.unusedVariables false
set_option linter.unusedSimpArgs false
set_option pp.deepTerms false
set_option pp.deepTerms.threshold 40
namespace Go.Am
open Go.Proofs

theorem bs_ne {α : Type} {c : α → Int} : ∀ {l : List α}, strictC c l → l.filter (fun x => decide (¬ c x = 0)) = l.filter (fun x => decide (c x < 0)) ++ l.filter fun x => decide (0 < c x)
  | [], _ => rfl
  | x :: l, h => by
    have h1 := List.pairwise_cons.1 h
    have ih := bs_ne h1.2
    simp only [List.filter_cons]
    by_cases hx : c x < 0
    · have h2 : ¬ c x = 0 := by omega
      have h3 : ¬ 0 < c x := by omega
      simp only [hx, h2, h3, decide_true, decide_false, not_false_eq_true, if_true, Bool.false_eq_true, if_false, List.cons_append, ih]
    · have hl : l.filter (fun x => decide (c x < 0)) = [] := by
        rw [List.filter_eq_nil_iff]
        intro y hy
        have := h1.1 y hy (by omega)
        simp; omega
      rw [hl, List.nil_append] at ih
      by_cases h0 : c x = 0
      · have h3 : ¬ 0 < c x := by omega
        simp only [hx, h0, decide_false, not_true_eq_false, if_false, Bool.false_eq_true, hl, List.nil_append, ih]
        simp
      · have h3 : 0 < c x := by omega
        simp only [hx, h0, h3, decide_true, decide_false, not_false_eq_true, if_true, Bool.false_eq_true, if_false, hl, List.nil_append, ih]
theorem cmpP_gt (p q : Pfx) : 0 < cmpP p q ↔ cmpP q p < 0 := by
  rw [cmpP_iff]
  simp only [cmpP, cmpA, orInt, cmpI]
  repeat' split
  all_goals omega
theorem cmpP_zero (p q : Pfx) : cmpP p q = 0 ↔ sameP p q = true := by
  have h1 := cmpP_iff p q
  have h2 := cmpP_gt p q
  have h3 := cmpP_iff q p
  have hk : kindP p = kindP q ↔ p.six = q.six := by
    unfold kindP
    cases p.six <;> cases q.six <;> simp
  rw [sameP_iff, ← hk]
  omega
theorem checkR_sorted {l : List Route} (h : checkR l = 0) : l.Pairwise fun r s => cmpP r.pfx s.pfx < 0 := by
  unfold checkR at h
  split at h
  · cases h
  · exact (checkRL_sorted h).2.2
theorem strictR {l : List Route} (h : checkR l = 0) (p : Pfx) : strictC (cmpQ p) l := by
  refine (checkR_sorted h).imp fun {x y} hxy h0 => ?_
  unfold cmpQ at *
  rw [cmpP_gt]
  have h1 := cmpP_iff x.pfx p
  rw [cmpP_iff] at hxy ⊢
  omega
theorem woR_cmp {l : List Route} (h : checkR l = 0) (p : Pfx) : woR p l = l.filter (fun x => decide (cmpQ p x < 0)) ++ l.filter fun x => decide (0 < cmpQ p x) := by
  rw [← bs_ne (strictR h p)]
  unfold woR cmpQ
  congr
  funext r
  have := cmpP_zero r.pfx p
  cases hs : sameP r.pfx p <;> simp [hs] at this <;> simp [this]
theorem ltR_wo (l : List Route) (p : Pfx) : ltR p (woR p l) = l.filter fun x => decide (cmpQ p x < 0) := by
  unfold ltR woR cmpQ
  rw [List.filter_filter]
  congr
  funext r
  have := cmpP_zero r.pfx p
  cases hs : sameP r.pfx p <;> simp [hs] at this <;> simp [this]
theorem gtR_wo (l : List Route) (p : Pfx) : gtR p (woR p l) = l.filter fun x => decide (0 < cmpQ p x) := by
  unfold gtR woR cmpQ
  rw [List.filter_filter]
  congr
  funext r
  have := cmpP_zero r.pfx p
  have h2 := cmpP_gt r.pfx p
  cases hs : sameP r.pfx p <;> simp [hs] at this <;> simp [← h2, this]
theorem woR_256 {l : List Route} (h : checkR l = 0) (p : Pfx) : (woR p l).length = 256 ↔ bsF (cmpQ p) l = false ∧ l.length = 256 := by
  have hl := checkR_len h
  rw [woR_cmp h]
  cases hf : bsF (cmpQ p) l with
  | false =>
    rw [← bs_none (strictR h p) hf]
    simp
  | true =>
    rw [← bs_del (strictR h p) hf]
    have := bsF_ltn hf
    simp
    omega
theorem findW_bs {l : List Route} (h : checkR l = 0) (p : Pfx) : (findW p l).isSome = bsF (cmpQ p) l := by
  have hm := bs_mem (strictR h p)
  have hw : ∀ l : List Route, (findW p l).isSome = true ↔ ∃ x ∈ l, cmpQ p x = 0 := by
    intro l
    induction l with
    | nil => simp [findW]
    | cons x l ih =>
      rw [findW]
      have := cmpP_zero x.pfx p
      split
      · rename_i hs
        simp only [Option.isSome_some, true_iff]
        exact ⟨x, List.mem_cons_self, this.2 hs⟩
      · rename_i hs
        rw [ih]
        constructor
        · rintro ⟨y, hy, h0⟩; exact ⟨y, List.mem_cons_of_mem _ hy, h0⟩
        · rintro ⟨y, hy, h0⟩
          rcases List.mem_cons.1 hy with rfl | hy
          · exact absurd (this.1 h0) hs
          · exact ⟨y, hy, h0⟩
  have := (hw l).trans hm.symm
  cases h1 : (findW p l).isSome <;> cases h2 : bsF (cmpQ p) l <;> simp [h1, h2] at this ⊢
set_option maxRecDepth 8000 in
set_option maxHeartbeats 2000000 in
theorem putRo_spec (l : List Route) (x : Route) :
    FSpec Tryz.prog 239 [.im (.sl 6 (l.map Route.iv)), x.av] [] (.tup [.im (.sl 6 ((putRt l x).1.map Route.iv)), .int .i64 (putRt l x).2]) [] := by
  have hc := checkR_spec l
  have ho := routeOk_spec x
  refine FSpec.of_z (q := []) Tryz.func239 (by kernel_rfl) rfl Tryz.ntmps239 Tryz.results239 hP (by kernel_rfl) (by simp) (by first | rfl | simp) ?_
  simp -implicitDefEqProofs
  first | refine CallK.same (hc) rfl rfl ?_ | refine CallQ.same (hc) rfl rfl ?_ | refine CallQG.same _ (hc) rfl ?_ | refine CallG.same _ (hc) rfl ?_ | refine CallK.pv (hc) rfl rfl ?_
  simp -implicitDefEqProofs
  first | refine CallK.same (ho) rfl rfl ?_ | refine CallQ.same (ho) rfl rfl ?_ | refine CallQG.same _ (ho) rfl ?_ | refine CallG.same _ (ho) rfl ?_ | refine CallK.pv (ho) rfl rfl ?_
  simp -implicitDefEqProofs
  refine ⟨fun h => ?_, fun a1 a2 => ?_⟩
  · refine EndZ.ret [] (.tup [.im (.sc (.slice none 0 0)), .int .i64 2]) (by simp) ?_
    simp [putRt, h]
  have hlen := checkR_len a1
  have hcl := cloRoute_spec (l.map Route.iv) (by simp; omega)
  have hf := bsR_spec l x.pfx (strictR a1 _)
  have hP : putRt l x = if bsF (cmpQ x.pfx) l = false ∧ l.length = 256 then (l, 8) else (l.filter (fun y => decide (cmpQ x.pfx y < 0)) ++ [x] ++ l.filter (fun y => decide (0 < cmpQ x.pfx y)), 0) := by
    unfold putRt
    rw [if_neg (by simp [a1, a2]), ltR_wo, gtR_wo]
    simp only [woR_256 a1]
  have hs1 := bs_set (strictR a1 x.pfx) x
  have hs2 := bs_ins (strictR a1 x.pfx) x
  have hlt1 := fun hh => bsF_ltn (c := cmpQ x.pfx) (l := l) hh
  have hle := bsI_le (cmpQ x.pfx) l
  generalize putRt l x = RES at *
  generalize bsI (cmpQ x.pfx) l = i at *
  have hi := insRoute_spec (l.map Route.iv) x.iv i (by simpa using hle) (by simp; omega)
  refine CallK.outs [] hcl rfl (by simp) (by simp [AV.flat]) ?_
  simp -implicitDefEqProofs
  refine CallK.fz [1] hf rfl (by simp) rfl ?_
  simp -implicitDefEqProofs
  cases hfb : bsF (cmpQ x.pfx) l with
  | true =>
    have hlt := hlt1 hfb
    have hset := hs1 hfb
    have hmod := mod_set Route.iv l x i (fun y => x.iv ++ y.drop 6) (fun y => by simp)
    obtain ⟨Y, hY⟩ : ∃ Y, l.set i x = Y := ⟨_, rfl⟩
    rw [if_neg (by simp [hfb]), ← hset, hY] at hP
    rw [hY] at hmod
    subst hP
    simp -implicitDefEqProofs [hlt]
    refine EndZ.ret [1] (.tup [.row 1, .int .i64 0]) (by simp) ?_
    rw [← hmod]
    simp -implicitDefEqProofs
  | false =>
    have hset := hs2 hfb
    simp -implicitDefEqProofs
    refine ⟨fun h32 => ?_, fun h32 => ?_⟩
    · rw [if_pos ⟨hfb, by omega⟩] at hP
      subst hP
      refine EndZ.ret [1] (.tup [.row 1, .int .i64 8]) (by simp) ?_
      simp -implicitDefEqProofs
    · rw [if_neg (fun hh => h32 (by omega)), ← hset] at hP
      subst hP
      refine CallO.mk [] [1, 2] hi (by simp) rfl (by simp) (by simp) (by simp) ?_
      simp -implicitDefEqProofs
      refine EndZ.ret [3] (.tup [.row 3, .int .i64 0]) (by simp) ?_
      simp -implicitDefEqProofs
theorem findRo_spec (l : List Route) (p : Pfx) :
    FSpec Tryz.prog 255 [.im (.sl 6 (l.map Route.iv)), p.av] [] (.tup [.int .i64 (if findRt l p = 0 then bsI (cmpQ p) l else 0), .int .i64 (findRt l p)]) [] := by
  have hc := checkR_spec l
  have ho := checkP_spec p
  refine FSpec.of_flat (q := []) Tryz.func255 (by kernel_rfl) rfl Tryz.ntmps255 Tryz.results255 hP (by kernel_rfl) (by simp) (by first | rfl | simp) ?_
  simp -implicitDefEqProofs
  first | refine CallK.same (hc) rfl rfl ?_ | refine CallQ.same (hc) rfl rfl ?_ | refine CallQG.same _ (hc) rfl ?_ | refine CallG.same _ (hc) rfl ?_ | refine CallK.pv (hc) rfl rfl ?_
  simp -implicitDefEqProofs
  first | refine CallK.same (ho) rfl rfl ?_ | refine CallQ.same (ho) rfl rfl ?_ | refine CallQG.same _ (ho) rfl ?_ | refine CallG.same _ (ho) rfl ?_ | refine CallK.pv (ho) rfl rfl ?_
  simp -implicitDefEqProofs
  refine ⟨fun h => ?_, fun a1 a2 => ?_⟩
  · simp [findRt, h]
  have hf := bsR_spec l p (strictR a1 _)
  have hx : findRt l p = if bsF (cmpQ p) l then 0 else 3 := by
    unfold findRt
    rw [if_neg (by simp [a1, a2]), findW_bs a1]
  first | refine CallK.same (hf) rfl rfl ?_ | refine CallQ.same (hf) rfl rfl ?_ | refine CallQG.same _ (hf) rfl ?_ | refine CallG.same _ (hf) rfl ?_ | refine CallK.pv (hf) rfl rfl ?_
  simp -implicitDefEqProofs
  rw [hx]
  cases bsF (cmpQ p) l <;> simp
set_option maxRecDepth 8000 in
set_option maxHeartbeats 2000000 in
theorem delRo_spec (l : List Route) (p : Pfx) :
    FSpec Tryz.prog 240 [.im (.sl 6 (l.map Route.iv)), p.av] [] (.tup [.im (.sl 6 ((delRt l p).1.map Route.iv)), .int .i64 (delRt l p).2]) [] := by
  have hf := findRo_spec l p
  refine FSpec.of_z (q := []) Tryz.func240 (by kernel_rfl) rfl Tryz.ntmps240 Tryz.results240 hP (by kernel_rfl) (by simp) (by first | rfl | simp) ?_
  simp -implicitDefEqProofs
  first | refine CallK.same (hf) rfl rfl ?_ | refine CallQ.same (hf) rfl rfl ?_ | refine CallQG.same _ (hf) rfl ?_ | refine CallG.same _ (hf) rfl ?_ | refine CallK.pv (hf) rfl rfl ?_
  simp -implicitDefEqProofs
  by_cases h2 : findRt l p = 2
  · simp -implicitDefEqProofs [h2]
    refine EndZ.ret [] (.tup [.im (.sc (.slice none 0 0)), .int .i64 2]) (by simp [h2]) ?_
    simp [delRt, h2]
  have a1 : checkR l = 0 := by
    apply Classical.byContradiction
    intro h
    apply h2
    unfold findRt
    rw [if_pos (.inl h)]
  have hx : findRt l p = if bsF (cmpQ p) l then 0 else 3 := by
    unfold findRt at h2 ⊢
    split at h2
    · exact absurd rfl h2
    · rename_i h3
      rw [if_neg h3, findW_bs a1]
  have hP : delRt l p = (l.filter (fun y => decide (cmpQ p y < 0)) ++ l.filter (fun y => decide (0 < cmpQ p y)), if bsF (cmpQ p) l then 0 else 3) := by
    unfold delRt
    rw [if_neg h2, woR_cmp a1, hx]
  have hlen := checkR_len a1
  have hcl := cloRoute_spec (l.map Route.iv) (by simp; omega)
  have hs1 := bs_del (strictR a1 p)
  have hs2 := bs_none (strictR a1 p)
  have hlt1 := fun hh => bsF_ltn (c := cmpQ p) (l := l) hh
  generalize delRt l p = RES at *
  generalize bsI (cmpQ p) l = j at *
  cases hfb : bsF (cmpQ p) l with
  | true =>
    rw [if_pos hfb] at hx
    have hlt := hlt1 hfb
    have hset := hs1 hfb
    have hd := delRoute_spec (l.map Route.iv) j (by simpa using hlt) (by simp; omega)
    have e1 : IntKind.i64.wrap ((j : Int) + 1) = (j + 1 : Nat) := wrap64 (by omega) (by omega)
    rw [← hset, if_pos hfb] at hP
    subst hP
    simp -implicitDefEqProofs [hx, e1]
    refine CallK.outs [] hcl rfl (by simp) (by simp [AV.flat]) ?_
    simp -implicitDefEqProofs [hx, e1]
    refine CallO.mk [] [1] hd (by simp) rfl (by simp) (by simp) (by simp) ?_
    simp -implicitDefEqProofs
    refine EndZ.ret [2] (.tup [.row 2, .int .i64 0]) (by simp) ?_
    simp -implicitDefEqProofs
  | false =>
    rw [if_neg (by simp [hfb])] at hx
    rw [← hs2 hfb, if_neg (by simp [hfb])] at hP
    subst hP
    simp -implicitDefEqProofs [hx]
    refine CallK.outs [] hcl rfl (by simp) (by simp [AV.flat]) ?_
    simp -implicitDefEqProofs [hx]
    refine EndZ.ret [1] (.tup [.row 1, .int .i64 3]) (by simp) ?_
    simp -implicitDefEqProofs
end Go.Am


set_option linter.unusedVariables false
set_option linter.unusedSimpArgs false
set_option pp.deepTerms false
set_option pp.deepTerms.threshold 40
namespace Go.Am
open Go.Proofs

theorem ownF_spec (r : Router) (h1 : r.routes.length ≤ 4096) (h2 : r.links.length ≤ 4096) : FSpec Tryz.prog 161 [r.av] [] r.av [] := by
  have hc1 := cloRoute_spec (r.routes.map Route.iv) (by simpa using h1)
  have hc2 := cloLink_spec (r.links.map Link.iv) (by simpa using h2)
  refine FSpec.of_z (q := [(1, .m [.p [], .p [], .e [4], .p [0], .p [0], .e [7], .p [1]])]) Tryz.func161 (by kernel_rfl) rfl Tryz.ntmps161 Tryz.results161 hP (by kernel_rfl) (by simp) (by first | rfl | simp) ?_
  simp -implicitDefEqProofs
  refine CallK.outs [] hc1 rfl (by simp) (by simp [AV.flat]) ?_
  simp -implicitDefEqProofs
  refine CallK.outs [] hc2 rfl (by simp) (by simp [AV.flat]) ?_
  simp -implicitDefEqProofs
  refine EndZ.ret [2, 3] (.agg [.int .i64 r.id, .bool r.up, .row 2, .row 3]) (by simp) ?_
  simp -implicitDefEqProofs
@[simp] def boxR (r : Router) : AObj := .box 265 [.int .i64 r.id, .bool r.up, .im (.sl 6 (r.routes.map Route.iv)), .im (.sl 2 (r.links.map Link.iv))]
theorem setRoutes_spec (r : Router) (l : List Route) (w : Int) : FSpec Tryz.prog 238 [.ptr 0 0, .im (.sl 6 (l.map Route.iv)), .int .i64 w] [boxR r] (.int .i64 w) [boxR ⟨r.id, r.up, l, r.links⟩] := by
  refine FSpec.of_o (q := []) Tryz.func238 (by kernel_rfl) rfl Tryz.ntmps238 Tryz.results238 hP (by kernel_rfl) (by simp) (by first | rfl | simp) ?_
  simp -implicitDefEqProofs [boxR]
  refine EndO.ret [] [0] (.int .i64 w) (by simp) (by simp)
theorem setLinks_spec (r : Router) (l : List Link) (w : Int) : FSpec Tryz.prog 241 [.ptr 0 0, .im (.sl 2 (l.map Link.iv)), .int .i64 w] [boxR r] (.int .i64 w) [boxR ⟨r.id, r.up, r.routes, l⟩] := by
  refine FSpec.of_o (q := []) Tryz.func241 (by kernel_rfl) rfl Tryz.ntmps241 Tryz.results241 hP (by kernel_rfl) (by simp) (by first | rfl | simp) ?_
  simp -implicitDefEqProofs [boxR]
  refine EndO.ret [] [0] (.int .i64 w) (by simp) (by simp)
def doneR (r : Router) (e : Ev) : Router × Int :=
  if r.up = (e.kind == 1) then (r, 10)
  else if e.kind = 1 then (⟨r.id, true, r.routes, r.links⟩, 0)
  else if e.kind = 2 then (⟨r.id, false, [], []⟩, 0)
  else if e.kind = 3 then (⟨r.id, r.up, (putRt r.routes ⟨e.pfx, e.act⟩).1, r.links⟩, (putRt r.routes ⟨e.pfx, e.act⟩).2)
  else if e.kind = 4 then (⟨r.id, r.up, (delRt r.routes e.pfx).1, r.links⟩, 0)
  else if e.kind = 5 then (⟨r.id, r.up, r.routes, (putLk r.links ⟨e.iface, e.peer⟩).1⟩, (putLk r.links ⟨e.iface, e.peer⟩).2)
  else (⟨r.id, r.up, r.routes, (delLk r.links e.iface).1⟩, 0)
theorem evOk_tail {e : Ev} (h : evOk e = true) : tailOk e = true := by
  unfold evOk at h
  simp only [Bool.and_eq_true] at h
  exact h.2
theorem doneR_eq {r : Router} {e : Ev} (h1 : routerOk r = true) (h2 : evOk e = true) (h3 : e.router = r.id) : doneR r e = applyR r e := by
  unfold applyR doneR
  simp only [h1, h2, h3, Bool.true_eq_false, or_self, not_true_eq_false, if_false]
  have ht := evOk_tail h2
  unfold routerOk at h1
  simp only [Bool.and_eq_true, beq_iff_eq] at h1
  have hR := h1.1.2
  have hL := h1.2
  by_cases hup : r.up = (e.kind == 1)
  · rw [if_pos hup, if_pos hup]
  rw [if_neg hup, if_neg hup]
  by_cases k1 : e.kind = 1
  · rw [if_pos k1, if_pos k1]
  rw [if_neg k1, if_neg k1]
  by_cases k2 : e.kind = 2
  · rw [if_pos k2, if_pos k2]
  rw [if_neg k2, if_neg k2]
  by_cases k3 : e.kind = 3
  · rw [if_pos k3, if_pos k3]
    have : routeOk ⟨e.pfx, e.act⟩ = true := by
      simp [tailOk, k3] at ht
      simp [routeOk, ht]
    unfold putRt
    rw [if_neg (by simp [hR, this])]
    split <;> simp
  rw [if_neg k3, if_neg k3]
  by_cases k4 : e.kind = 4
  · rw [if_pos k4, if_pos k4]
  rw [if_neg k4, if_neg k4]
  by_cases k5 : e.kind = 5
  · rw [if_pos k5, if_pos k5]
    have : rightL ⟨e.iface, e.peer⟩ = true := by
      simp [tailOk, k5] at ht
      simp [rightL, ifaceOk, idOk] at ht ⊢
      omega
    unfold putLk
    rw [if_neg (by simp [hL, this])]
    split <;> simp
  rw [if_neg k5, if_neg k5]
set_option maxRecDepth 8000 in
set_option maxHeartbeats 4000000 in
theorem happenB_spec (r : Router) (e : Ev) (a2 : evOk e = true) :
    FSpec Tryz.prog 208 [.ptr 0 0, e.av] [boxR r] (.int .i64 (doneR r e).2) [boxR (doneR r e).1] := by
  have hx : doneR r e = _ := rfl
  conv at hx => rhs; unfold doneR
  generalize doneR r e = RES at *
  refine FSpec.of_o (q := [(10, .n 14), (12, .n 11), (14, .n 14), (16, .n 11)]) Tryz.func208 (by kernel_rfl) rfl Tryz.ntmps208 Tryz.results208 hP (by kernel_rfl) (by simp) (by first | rfl | simp) ?_
  simp -implicitDefEqProofs [boxR]
  refine ⟨fun h => ?_, fun a4 => ?_⟩
  · rw [if_pos h] at hx
    subst hx
    refine EndO.ret [] [0] (.int .i64 10) (by simp) (by simp)
  rw [if_neg a4] at hx
  rcases evOk_kind a2 with hk | hk | hk | hk | hk | hk
  · simp [hk] at hx
    subst hx
    simp -implicitDefEqProofs [hk]
    refine EndO.ret [] [0] (.int .i64 0) (by simp) (by simp)
  · simp [hk] at hx
    subst hx
    simp -implicitDefEqProofs [hk]
    refine EndO.ret [] [0] (.int .i64 0) (by simp) (by simp)
  · simp [hk] at hx
    have hp := putRo_spec r.routes ⟨e.pfx, e.act⟩
    simp -implicitDefEqProofs [hk]
    generalize putRt r.routes ⟨e.pfx, e.act⟩ = RS at *
    subst hx
    first | refine CallK.same (hp) rfl rfl ?_ | refine CallQ.same (hp) rfl rfl ?_ | refine CallQG.same _ (hp) rfl ?_ | refine CallG.same _ (hp) rfl ?_ | refine CallK.pv (hp) rfl rfl ?_
    simp -implicitDefEqProofs
    refine CallO.mk [] [0] (setRoutes_spec r RS.1 RS.2) (by simp) rfl (by simp [boxR]) (by simp) (by simp) ?_
    simp -implicitDefEqProofs [boxR]
    refine EndO.ret [] [0] (.int .i64 RS.2) (by simp) (by simp)
  · simp [hk] at hx
    have hp := delRo_spec r.routes e.pfx
    simp -implicitDefEqProofs [hk]
    generalize delRt r.routes e.pfx = RS at *
    subst hx
    first | refine CallK.same (hp) rfl rfl ?_ | refine CallQ.same (hp) rfl rfl ?_ | refine CallQG.same _ (hp) rfl ?_ | refine CallG.same _ (hp) rfl ?_ | refine CallK.pv (hp) rfl rfl ?_
    simp -implicitDefEqProofs
    refine CallO.mk [] [0] (setRoutes_spec r RS.1 RS.2) (by simp) rfl (by simp [boxR]) (by simp) (by simp) ?_
    simp -implicitDefEqProofs [boxR]
    refine EndO.ret [] [0] (.int .i64 0) (by simp) (by simp)
  · simp [hk] at hx
    have hp := putLo_spec r.links ⟨e.iface, e.peer⟩
    simp -implicitDefEqProofs [hk]
    generalize putLk r.links ⟨e.iface, e.peer⟩ = RS at *
    subst hx
    first | refine CallK.same (hp) rfl rfl ?_ | refine CallQ.same (hp) rfl rfl ?_ | refine CallQG.same _ (hp) rfl ?_ | refine CallG.same _ (hp) rfl ?_ | refine CallK.pv (hp) rfl rfl ?_
    simp -implicitDefEqProofs
    refine CallO.mk [] [0] (setLinks_spec r RS.1 RS.2) (by simp) rfl (by simp [boxR]) (by simp) (by simp) ?_
    simp -implicitDefEqProofs [boxR]
    refine EndO.ret [] [0] (.int .i64 RS.2) (by simp) (by simp)
  · simp [hk] at hx
    have hp := delLo_spec r.links e.iface
    simp -implicitDefEqProofs [hk]
    generalize delLk r.links e.iface = RS at *
    subst hx
    first | refine CallK.same (hp) rfl rfl ?_ | refine CallQ.same (hp) rfl rfl ?_ | refine CallQG.same _ (hp) rfl ?_ | refine CallG.same _ (hp) rfl ?_ | refine CallK.pv (hp) rfl rfl ?_
    simp -implicitDefEqProofs
    refine CallO.mk [] [0] (setLinks_spec r RS.1 RS.2) (by simp) rfl (by simp [boxR]) (by simp) (by simp) ?_
    simp -implicitDefEqProofs [boxR]
    refine EndO.ret [] [0] (.int .i64 0) (by simp) (by simp)
set_option maxRecDepth 8000 in
set_option maxHeartbeats 4000000 in
theorem applyRo_spec (r : Router) (e : Ev) (hsq : 0 ≤ e.seq) :
    FSpec Tryz.prog 163 [r.av, e.av] [] (.tup [(applyR r e).1.av, .int .i64 (applyR r e).2]) [] := by
  have hc := checkF_spec r
  have he := evOk_spec e hsq
  have hx1 : routerOk r = false ∨ evOk e = false → applyR r e = (router0, 2) := fun h => by unfold applyR; rw [if_pos h]
  have hx2 : routerOk r = true → evOk e = true → ¬ e.router = r.id → applyR r e = (r, 14) := fun h1 h2 h => by unfold applyR; rw [if_neg (by simp [h1, h2]), if_pos h]
  have hx3 := doneR_eq (r := r) (e := e)
  generalize applyR r e = RES at *
  refine FSpec.of_z (q := []) Tryz.func163 (by kernel_rfl) rfl Tryz.ntmps163 Tryz.results163 hP (by kernel_rfl) (by simp) (by first | rfl | simp) ?_
  simp -implicitDefEqProofs
  first | refine CallK.same (hc) rfl rfl ?_ | refine CallQ.same (hc) rfl rfl ?_ | refine CallQG.same _ (hc) rfl ?_ | refine CallG.same _ (hc) rfl ?_ | refine CallK.pv (hc) rfl rfl ?_
  simp -implicitDefEqProofs
  first | refine CallK.same (he) rfl rfl ?_ | refine CallQ.same (he) rfl rfl ?_ | refine CallQG.same _ (he) rfl ?_ | refine CallG.same _ (he) rfl ?_ | refine CallK.pv (he) rfl rfl ?_
  simp -implicitDefEqProofs
  refine ⟨fun h => ?_, fun a1 a2 => ?_⟩
  · refine EndZ.ret [] (.tup [.agg [.int .i64 0, .bool false, .im (.sc (.slice none 0 0)), .im (.sc (.slice none 0 0))], .int .i64 2]) (by simp) ?_
    simp [hx1 h, router0]
  obtain ⟨l1, l2⟩ := routerOk_len a1
  have hcp := ownF_spec r (by omega) (by omega)
  first | refine CallK.same (hcp) rfl rfl ?_ | refine CallQ.same (hcp) rfl rfl ?_ | refine CallQG.same _ (hcp) rfl ?_ | refine CallG.same _ (hcp) rfl ?_ | refine CallK.pv (hcp) rfl rfl ?_
  simp -implicitDefEqProofs
  refine ⟨fun h => ?_, fun a3 => ?_⟩
  · refine EndZ.ret [] (.tup [r.av, .int .i64 14]) (by simp) ?_
    simp [hx2 a1 a2 h]
  have hR := hx3 a1 a2 a3
  subst hR
  refine CallO.mk [] [3] (happenB_spec r e a2) (by simp) rfl (by simp [boxR]) (by simp) (by simp) ?_
  generalize doneR r e = RES
  simp -implicitDefEqProofs [boxR]
  refine EndZ.ret [] (.tup [RES.1.av, .int .i64 RES.2]) (by simp) ?_
  simp -implicitDefEqProofs
end Go.Am

